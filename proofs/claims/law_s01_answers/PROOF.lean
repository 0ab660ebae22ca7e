import PyProof.Rows.All
import Wide.All
import OpenK.AllK
import Wide.FinOn
import PyProof.EqAt
import PyProof.EqKinds
import PyProof.TupleCall
import Open.SpecLaws
import KE.OsGo
import KE.GoesRaise
import HandS.ForSpec
import HandS.Comp
import HandS.Iter
import HandS.Zip
import HandS.Walk
import HandS.Dict
import HandS.DictTup
import HandS.SortRule
import HandS.SortInts
import HandS.More
import HandS.TupAny
import HandS.Flow
import HandS.Conv
import KE.GoesEnum
import KE.KDictZip
import HandS.ExcOwn
import HandS.CallSlots
import PySem.Challenge.RW_loopsfound_s01_answers
set_option Elab.async false
set_option linter.all false
set_option maxRecDepth 100000
set_option maxHeartbeats 4000000
namespace My
open VamacBase

/-! ### deeds as triples -/
def kindOf : Deed → Int
  | .down => 0 | .up => 1 | .top => 2 | .write _ _ => 3 | .add _ _ => 4 | .copy _ => 5 | .paste _ => 6 | .delete => 7 | .double => 8 | .find _ _ => 9
def fldOf : Deed → Option Int
  | .write f _ => some (f : Int) | .add f _ => some (f : Int) | .copy f => some (f : Int) | .paste f => some (f : Int) | .find f _ => some (f : Int) | _ => none
def numOf : Deed → Option Int
  | .write _ v => some v | .add _ v => some v | .find _ v => some v | _ => none

theorem deed_ext {a b : Deed} (h1 : kindOf a = kindOf b) (h2 : fldOf a = fldOf b) (h3 : numOf a = numOf b) : a = b := by
  cases a <;> cases b <;> simp_all [kindOf, fldOf, numOf] <;> omega
theorem numOf_has (d : Deed) : (numOf d).isSome = hasNumber d := by cases d <;> rfl
theorem numOf_some {d : Deed} {v : Int} (h : numOf d = some v) : numberOf d = v ∧ hasNumber d = true := by
  cases d <;> simp_all [numOf, numberOf, hasNumber]
theorem numOf_none {d : Deed} (h : numOf d = none) : numberOf d = 0 ∧ hasNumber d = false ∧ ∀ v, withNumber v d = d := by
  cases d <;> simp_all [numOf, numberOf, hasNumber, withNumber]
theorem kind_with (v : Int) (d : Deed) : kindOf (withNumber v d) = kindOf d := by cases d <;> rfl
theorem fld_with (v : Int) (d : Deed) : fldOf (withNumber v d) = fldOf d := by cases d <;> rfl
theorem num_with {d : Deed} (v : Int) (h : hasNumber d = true) : numOf (withNumber v d) = some v := by cases d <;> simp_all [hasNumber, withNumber, numOf]
theorem num_kind {a b : Deed} (h : kindOf a = kindOf b) : hasNumber a = hasNumber b := by cases a <;> cases b <;> simp_all [kindOf, hasNumber]
theorem with_self (d : Deed) : withNumber (numberOf d) d = d := by cases d <;> rfl

/-! ### step_of as the program says it -/
/-- alike but for the numbers -/
def alike (a b : Deed) : Bool := decide (kindOf a = kindOf b) && decide (fldOf a = fldOf b)
/-- the last comprehension's test of step_of -/
def grows (a : Deed) (s : Int) : Nat → List Deed → Bool
  | _, [] => true
  | k, d :: r => decide (numOf d = some (numberOf a + (k : Int) * s)) && grows a s (k + 1) r
def stepPy : List Deed → Option Int
  | [] => none
  | a :: l => if (a :: l).any (fun d => !alike d a) then none
    else match l with
      | [] => some 0
      | b :: r => if hasNumber a = false then some 0
        else if 999 < (numberOf b - numberOf a).natAbs ∨ grows a (numberOf b - numberOf a) 0 (a :: b :: r) = false then none else some (numberOf b - numberOf a)

theorem okValue_iff (v : Int) : okValue v = true ↔ v.natAbs ≤ 999 := by
  unfold okValue VALUE
  simp only [Bool.and_eq_true, decide_eq_true_eq]
  omega
theorem alike_iff {a b : Deed} : alike a b = true ↔ kindOf a = kindOf b ∧ fldOf a = fldOf b := by simp [alike]
theorem eq_with {d a : Deed} {v : Int} (h : hasNumber a = true) : d = withNumber v a ↔ alike d a = true ∧ numOf d = some v := by
  constructor
  · rintro rfl
    exact ⟨alike_iff.mpr ⟨kind_with _ _, fld_with _ _⟩, num_with v h⟩
  · rintro ⟨h1, h2⟩
    obtain ⟨k, f⟩ := alike_iff.mp h1
    exact deed_ext (k.trans (kind_with v a).symm) (f.trans (fld_with v a).symm) (h2.trans (num_with v h).symm)
theorem eq_plain {d a : Deed} (h : hasNumber a = false) : d = a ↔ alike d a = true := by
  constructor
  · rintro rfl
    exact alike_iff.mpr ⟨rfl, rfl⟩
  · intro h1
    obtain ⟨k, f⟩ := alike_iff.mp h1
    have e := num_kind k
    rw [h] at e
    have n1 : numOf d = none := by
      have := numOf_has d
      rw [e] at this
      simpa using this
    have n2 : numOf a = none := by
      have := numOf_has a
      rw [h] at this
      simpa using this
    exact deed_ext k f (n1.trans n2.symm)
theorem all_zip (a : Deed) (s : Int) (h : hasNumber a = true) : ∀ (l : List Deed) (k : Nat),
    (l.zipIdx k).all (fun d => d.1 == withNumber (numberOf a + s * (d.2 : Int)) a) = (l.all (fun d => alike d a) && grows a s k l)
  | [], _ => rfl
  | d :: r, k => by
    rw [List.zipIdx_cons, List.all_cons, all_zip a s h r (k + 1), List.all_cons]
    show (d == withNumber (numberOf a + s * (k : Int)) a && _) = (alike d a && _ && (decide (numOf d = some (numberOf a + (k : Int) * s)) && grows a s (k + 1) r))
    have e : (d == withNumber (numberOf a + s * (k : Int)) a) = (alike d a && decide (numOf d = some (numberOf a + (k : Int) * s))) := by
      rw [Bool.eq_iff_iff, beq_iff_eq, eq_with h, Bool.and_eq_true, decide_eq_true_eq, Int.mul_comm]
    rw [e]
    cases alike d a <;> cases decide (numOf d = some (numberOf a + (k : Int) * s)) <;> cases r.all (fun d => alike d a) <;> cases grows a s (k + 1) r <;> rfl
theorem all_zip0 (a : Deed) (h : hasNumber a = false) : ∀ (l : List Deed) (k : Nat) (s : Int),
    (l.zipIdx k).all (fun d => d.1 == withNumber (numberOf a + s * (d.2 : Int)) a) = l.all (fun d => alike d a)
  | [], _, _ => rfl
  | d :: r, k, s => by
    rw [List.zipIdx_cons, List.all_cons, all_zip0 a h r (k + 1) s, List.all_cons]
    have n : numOf a = none := by
      have := numOf_has a
      rw [h] at this
      simpa using this
    have e : (d == withNumber (numberOf a + s * (k : Int)) a) = alike d a := by
      rw [(numOf_none n).2.2, Bool.eq_iff_iff, beq_iff_eq, eq_plain h]
    show (d == withNumber (numberOf a + s * (k : Int)) a && _) = _
    rw [e]
theorem step_py : ∀ l : List Deed, Vamacb.stepOf l = stepPy l
  | [] => rfl
  | [a] => by
    have e : alike a a = true := alike_iff.mpr ⟨rfl, rfl⟩
    show some 0 = (if ([a].any fun d => !alike d a) = true then none else some 0)
    simp [e]
  | a :: b :: l => by
    show (if (okValue (numberOf b - numberOf a) && ((a :: b :: l).zipIdx.all fun d => d.1 == withNumber (numberOf a + (numberOf b - numberOf a) * (d.2 : Int)) a)) = true then some (numberOf b - numberOf a) else none) = (if ((a :: b :: l).any fun d => !alike d a) = true then none else if hasNumber a = false then some 0
        else if 999 < (numberOf b - numberOf a).natAbs ∨ grows a (numberOf b - numberOf a) 0 (a :: b :: l) = false then none else some (numberOf b - numberOf a))
    have q : ((a :: b :: l).any fun d => !alike d a) = !((a :: b :: l).all fun d => alike d a) := by rw [List.not_all_eq_any_not]
    rw [q]
    cases h : hasNumber a with
    | false =>
      rw [all_zip0 a h]
      cases hal : ((a :: b :: l).all fun d => alike d a) with
      | false => simp
      | true =>
        have hb : alike b a = true := List.all_eq_true.mp hal b (by simp)
        have eb : b = a := (eq_plain h).mpr hb
        subst eb
        have e0 : numberOf b - numberOf b = 0 := by omega
        rw [e0]
        simp [okValue, VALUE]
    | true =>
      rw [all_zip a _ h]
      cases hal : ((a :: b :: l).all fun d => alike d a) with
      | false => simp
      | true =>
        cases hg : grows a (numberOf b - numberOf a) 0 (a :: b :: l) with
        | false => simp
        | true =>
          have := okValue_iff (numberOf b - numberOf a)
          cases ho : okValue (numberOf b - numberOf a) with
          | true =>
            have := this.mp ho
            have h3 : ¬ 999 < (numberOf b - numberOf a).natAbs := by omega
            simp [h3]
          | false =>
            have h2 : ¬ (numberOf b - numberOf a).natAbs ≤ 999 := fun z => by rw [this.mpr z] at ho; cases ho
            have h3 : 999 < (numberOf b - numberOf a).natAbs := by omega
            simp [h3]
end My
namespace My
open VamacBase
open Vamacb (Folded Rounds)

theorem fm_congr {A B : Type} {f g : A → Option B} : ∀ {l : List A}, (∀ x ∈ l, f x = g x) → l.filterMap f = l.filterMap g
  | [], _ => rfl
  | a :: l, h => by
    rw [List.filterMap_cons, List.filterMap_cons, h a (by simp), fm_congr fun x hx => h x (List.mem_cons_of_mem _ hx)]
/-! ### parts of a list -/
def sub (l : List Deed) (a n : Nat) : List Deed := (l.drop a).take n
def dAt (l : List Deed) (i : Nat) : Deed := l.getD i default
theorem sub_length {l : List Deed} {a n : Nat} (h : a + n ≤ l.length) : (sub l a n).length = n := by
  unfold sub
  rw [List.length_take, List.length_drop]
  omega
theorem sub_get {l : List Deed} {a n i : Nat} (h : a + n ≤ l.length) (hi : i < n) : (sub l a n)[i]? = some (dAt l (a + i)) := by
  unfold sub dAt
  rw [List.getElem?_take_of_lt hi, List.getElem?_drop, List.getD_eq_getElem?_getD, List.getElem?_eq_getElem (by omega)]
  rfl
theorem get_dAt {l : List Deed} {i : Nat} (h : i < l.length) : l[i]? = some (dAt l i) := by
  unfold dAt
  rw [List.getD_eq_getElem?_getD, List.getElem?_eq_getElem h]
  rfl
theorem sub_sub {l : List Deed} {a n b m : Nat} (h : b + m ≤ n) : sub (sub l a n) b m = sub l (a + b) m := by
  unfold sub
  rw [List.drop_take, List.take_take, List.drop_drop]
  congr 1
  omega
theorem sub_eq_iff {l : List Deed} {a b n : Nat} (ha : a + n ≤ l.length) (hb : b + n ≤ l.length) : sub l a n = sub l b n ↔ ∀ i, i < n → dAt l (a + i) = dAt l (b + i) := by
  constructor
  · intro e i hi
    have h1 := sub_get ha hi
    have h2 := sub_get hb hi
    rw [e, h2] at h1
    exact (Option.some.inj h1).symm
  · intro h
    apply List.ext_getElem?
    intro i
    by_cases hi : i < n
    · rw [sub_get ha hi, sub_get hb hi, h i hi]
    · rw [List.getElem?_eq_none (by rw [sub_length ha]; omega), List.getElem?_eq_none (by rw [sub_length hb]; omega)]

/-! ### the program's spans -/
/-- Span.at -/
def colL (l : List Deed) (p m k o : Nat) : List Deed := (List.range k).map fun j => dAt l (p + j * m + o)
def stepAt (l : List Deed) (p m k o : Nat) : Option Int := Vamacb.stepOf (colL l p m k o)
def sameAt (l : List Deed) (p m k o : Nat) : Bool := (colL l p m k o).all fun d => d == dAt l (p + o)
def plainL (l : List Deed) (p m k : Nat) : Bool := (List.range m).all fun o => (stepAt l p m k o).isSome
def areSame (l : List Deed) (p m k o n : Nat) : Bool := (List.range n).all fun i => sameAt l p m k (o + i)
/-- spans_at -/
def spansOf (p e : Nat) : List (Nat × Nat) := ((List.range ((e - p) / 2 + 1)).drop 1).flatMap fun m => ((List.range (Nat.min 9 ((e - p) / m) + 1)).drop 2).map fun k => (m, k)
/-- a row of plain deeds, so many from an offset on -/
def chain (l : List Deed) (p m k : Nat) : Nat → Nat → Prog
  | 0, _ => .done
  | n + 1, o => .deed (dAt l (p + o)) ((stepAt l p m k o).getD 0) (chain l p m k n (o + 1))
def plainBody (l : List Deed) (p m k : Nat) : Prog := chain l p m k m 0
def innerL (l : List Deed) (p m k o : Nat) : List (Nat × Nat) := (spansOf (p + o) (p + m)).filter fun x => plainL l (p + o) x.1 x.2 && areSame l p m k o (x.1 * x.2)
def roundsOf (l : List Deed) (p m k : Nat) : Rounds := (List.range k).map fun j => sub l (p + j * m) m

theorem mul_le_of_lt {j k m : Nat} (h : j < k) : j * m + m ≤ m * k := by
  have : (j + 1) * m ≤ k * m := Nat.mul_le_mul_right m h
  rw [Nat.add_mul, Nat.one_mul] at this
  rw [Nat.mul_comm m k]
  exact this
theorem column_rounds {l : List Deed} {p m k o : Nat} (h : p + m * k ≤ l.length) (ho : o < m) : Vamacb.column (roundsOf l p m k) o = colL l p m k o := by
  unfold Vamacb.column roundsOf colL
  rw [List.filterMap_map, ← List.filterMap_eq_map]
  apply fm_congr
  intro j hj
  have hj' : j < k := List.mem_range.mp hj
  have := mul_le_of_lt (m := m) hj'
  show (sub l (p + j * m) m)[o]? = some (dAt l (p + j * m + o))
  exact sub_get (by omega) ho
theorem colL_cons {l : List Deed} {p m k o : Nat} (hk : 0 < k) : ∃ r, colL l p m k o = dAt l (p + o) :: r := by
  obtain ⟨k, rfl⟩ : ∃ j, k = j + 1 := ⟨k - 1, by omega⟩
  refine ⟨(List.range k).map fun j => dAt l (p + (j + 1) * m + o), ?_⟩
  unfold colL
  rw [List.range_succ_eq_map, List.map_cons, List.map_map]
  simp [Function.comp_def]
theorem deedAt_rounds {l : List Deed} {p m k o : Nat} (h : p + m * k ≤ l.length) (ho : o < m) (hk : 0 < k) :
    Vamacb.deedAt (roundsOf l p m k) o = (stepAt l p m k o).map fun s => (dAt l (p + o), s) := by
  unfold Vamacb.deedAt stepAt
  rw [column_rounds h ho]
  obtain ⟨r, e⟩ := colL_cons (l := l) (p := p) (m := m) (o := o) hk
  rw [e]
theorem innerAt_one {l : List Deed} {p m k : Nat} (h : p + m * k ≤ l.length) : Vamacb.innerAt [l] p m k = some (roundsOf l p m k) := by
  have hl : (sub l p (m * k)).length = m * k := sub_length h
  show (if (Vamacb.allSame [sub l p (m * k)] && [sub l p (m * k)].all fun x => x.length == m * k) = true then some ((List.range k).map fun j => (((([sub l p (m * k)] : Rounds).headD []).drop (j * m)).take m)) else none) = _
  rw [if_pos (by simp [Vamacb.allSame, hl])]
  congr 1
  unfold roundsOf
  apply List.map_congr_left
  intro j hj
  have hj' : j < k := List.mem_range.mp hj
  have := mul_le_of_lt (m := m) hj'
  show sub (sub l p (m * k)) (j * m) m = _
  exact sub_sub (by omega)
theorem innerAt_out {l : List Deed} {p m k : Nat} (h : ¬ p + m * k ≤ l.length) (hm : 0 < m * k) : Vamacb.innerAt [l] p m k = none := by
  have hl : (sub l p (m * k)).length ≠ m * k := by
    unfold sub
    rw [List.length_take, List.length_drop]
    omega
  show (if (Vamacb.allSame [sub l p (m * k)] && [sub l p (m * k)].all fun x => x.length == m * k) = true then some ((List.range k).map fun j => (((([sub l p (m * k)] : Rounds).headD []).drop (j * m)).take m)) else none) = _
  rw [if_neg (by simp [Vamacb.allSame, hl])]
theorem sameAt_iff {l : List Deed} {p m k o : Nat} : sameAt l p m k o = true ↔ ∀ j, j < k → dAt l (p + j * m + o) = dAt l (p + o) := by
  unfold sameAt colL
  rw [List.all_map, List.all_eq_true]
  simp
theorem areSame_iff {l : List Deed} {p m k o n : Nat} : areSame l p m k o n = true ↔ ∀ j, j < k → ∀ i, i < n → dAt l (p + j * m + o + i) = dAt l (p + o + i) := by
  unfold areSame
  rw [List.all_eq_true]
  constructor
  · intro h j hj i hi
    have := sameAt_iff.mp (h i (List.mem_range.mpr hi)) j hj
    rw [← Nat.add_assoc, ← Nat.add_assoc] at this
    exact this
  · intro h i hi
    refine sameAt_iff.mpr fun j hj => ?_
    rw [← Nat.add_assoc, ← Nat.add_assoc]
    exact h j hj i (List.mem_range.mp hi)
theorem innerAt_rounds {l : List Deed} {p m k o m' k' : Nat} (h : p + m * k ≤ l.length) (hk : 0 < k) (hi : o + m' * k' ≤ m) :
    Vamacb.innerAt (roundsOf l p m k) o m' k' = if areSame l p m k o (m' * k') = true then some (roundsOf l (p + o) m' k') else none := by
  have hp : (roundsOf l p m k).map (fun r => (r.drop o).take (m' * k')) = (List.range k).map fun j => sub l (p + j * m + o) (m' * k') := by
    unfold roundsOf
    rw [List.map_map]
    apply List.map_congr_left
    intro j hj
    show sub (sub l (p + j * m) m) o (m' * k') = _
    exact sub_sub hi
  have hlen : ∀ j, j < k → (sub l (p + j * m + o) (m' * k')).length = m' * k' := fun j hj => by
    have := mul_le_of_lt (m := m) hj
    exact sub_length (by omega)
  have hcons : ∃ r, (List.range k).map (fun j => sub l (p + j * m + o) (m' * k')) = sub l (p + o) (m' * k') :: r ∧ r = ((List.range k).drop 1).map fun j => sub l (p + j * m + o) (m' * k') := by
    obtain ⟨k, rfl⟩ : ∃ j, k = j + 1 := ⟨k - 1, by omega⟩
    refine ⟨_, ?_, rfl⟩
    rw [List.range_succ_eq_map]
    simp
  obtain ⟨r, e, er⟩ := hcons
  have hs : Vamacb.allSame (sub l (p + o) (m' * k') :: r) = areSame l p m k o (m' * k') := by
    rw [Bool.eq_iff_iff, areSame_iff]
    show (r.all fun b => b == sub l (p + o) (m' * k')) = true ↔ _
    rw [List.all_eq_true]
    constructor
    · intro hh j hj i hi'
      have h1 := mul_le_of_lt (m := m) hj
      have h0 := mul_le_of_lt (m := m) hk
      by_cases hj0 : j = 0
      · subst hj0
        simp
      · have hm : sub l (p + j * m + o) (m' * k') ∈ r := by
          rw [er]
          refine List.mem_map.mpr ⟨j, ?_, rfl⟩
          rw [List.mem_drop_iff_getElem]
          exact ⟨j - 1, by rw [List.length_range]; omega, by simp; omega⟩
        have := beq_iff_eq.mp (hh _ hm)
        exact (sub_eq_iff (by omega) (by omega)).mp this i hi'
    · intro hh x hx
      rw [er] at hx
      obtain ⟨j, hj, rfl⟩ := List.mem_map.mp hx
      have hj' : j < k := List.mem_range.mp (List.mem_of_mem_drop hj)
      have h1 := mul_le_of_lt (m := m) hj'
      have h0 := mul_le_of_lt (m := m) hk
      exact beq_iff_eq.mpr ((sub_eq_iff (by omega) (by omega)).mpr fun i hi' => hh j hj' i hi')
  have hall : ((sub l (p + o) (m' * k') :: r).all fun x => x.length == m' * k') = true := by
    rw [← e, List.all_map, List.all_eq_true]
    intro j hj
    simp [hlen j (List.mem_range.mp hj)]
  unfold Vamacb.innerAt
  simp only [hp, e, hs, hall, Bool.and_true]
  by_cases ha : areSame l p m k o (m' * k') = true
  · rw [if_pos ha, if_pos ha]
    congr 1
    unfold roundsOf
    apply List.map_congr_left
    intro j hj
    have hj' : j < k' := List.mem_range.mp hj
    have := mul_le_of_lt (m := m') hj'
    show sub (sub l (p + o) (m' * k')) (j * m') m' = _
    exact sub_sub (by omega)
  · rw [if_neg ha, if_neg ha]
theorem rounds_head {l : List Deed} {p m k : Nat} (h : p + m * k ≤ l.length) (hk : 0 < k) : ((roundsOf l p m k).headD []).length = m := by
  obtain ⟨k, rfl⟩ : ∃ j, k = j + 1 := ⟨k - 1, by omega⟩
  have h0 := mul_le_of_lt (m := m) hk
  unfold roundsOf
  rw [List.range_succ_eq_map, List.map_cons, List.headD_cons]
  exact sub_length (by omega)

/-! ### tables from the end -/
def tabG (g : Nat → List Folded → Folded) (n : Nat) : Nat → List Folded
  | 0 => [⟨1, some .done⟩]
  | t + 1 => g (n - (t + 1)) (tabG g n t) :: tabG g n t
theorem tabG_length (g : Nat → List Folded → Folded) (n : Nat) : ∀ t, (tabG g n t).length = t + 1
  | 0 => rfl
  | t + 1 => by rw [tabG, List.length_cons, tabG_length g n t]
theorem foldr_tab (g : Nat → List Folded → Folded) (n : Nat) : ∀ t, t ≤ n → ((List.range n).drop (n - t)).foldr (fun p l => g p l :: l) [⟨1, some .done⟩] = tabG g n t
  | 0, _ => by
    rw [Nat.sub_zero, List.drop_eq_nil_of_le (by simp)]
    rfl
  | t + 1, h => by
    have e : (List.range n).drop (n - (t + 1)) = (n - (t + 1)) :: (List.range n).drop (n - t) := by
      have h1 : n - (t + 1) < (List.range n).length := by rw [List.length_range]; omega
      rw [List.drop_eq_getElem_cons h1, List.getElem_range]
      congr 2
      omega
    rw [e, List.foldr_cons, foldr_tab g n t (by omega), tabG]
theorem foldr_all (g : Nat → List Folded → Folded) (n : Nat) : (List.range n).foldr (fun p l => g p l :: l) [⟨1, some .done⟩] = tabG g n n := by
  have := foldr_tab g n n (Nat.le_refl n)
  rw [Nat.sub_self, List.drop_zero] at this
  exact this
/-- what stands for a place, so many places from the end being told -/
def atT (T : List Folded) (i : Nat) : Folded := (T[i]?).getD Vamacb.nothing

/-! ### loopsAt is spans_at -/
theorem range_drop (a n : Nat) : (List.range n).drop a = List.range' a (n - a) := by
  rw [List.range_eq_range', List.drop_range']
  simp
theorem loops_row (n p m : Nat) (hm : 0 < m) (hp : p ≤ n) : (((List.range 10).drop 2).filterMap fun k => if p + m * k ≤ n then some (m, k) else none) = ((List.range (Nat.min 9 ((n - p) / m) + 1)).drop 2).map fun k => (m, k) := by
  have key : ∀ k, p + m * k ≤ n ↔ k ≤ (n - p) / m := fun k => by
    rw [Nat.le_div_iff_mul_le hm, Nat.mul_comm k m]
    omega
  generalize hq : (n - p) / m = q
  have e : ∀ k, (if p + m * k ≤ n then some (m, k) else none) = if k ≤ q then some (m, k) else none := fun k => by
    have := key k
    rw [hq] at this
    simp only [this]
  simp only [e]
  have h2 : q = 0 ∨ q = 1 ∨ q = 2 ∨ q = 3 ∨ q = 4 ∨ q = 5 ∨ q = 6 ∨ q = 7 ∨ q = 8 ∨ 9 ≤ q := by omega
  rcases h2 with rfl | rfl | rfl | rfl | rfl | rfl | rfl | rfl | rfl | h9
  all_goals first
    | rfl
    | (have e9 : Nat.min 9 q = 9 := Nat.min_eq_left h9
       rw [e9]
       have a : ∀ k ∈ (List.range 10).drop 2, (if k ≤ q then some (m, k) else none) = some (m, k) := fun k hk => by
         have : k < 10 := List.mem_range.mp (List.mem_of_mem_drop hk)
         rw [if_pos (by omega)]
       rw [fm_congr a]
       rfl)
theorem loops_spans {n p : Nat} (hp : p ≤ n) : Vamacb.loopsAt n p = spansOf p n := by
  unfold Vamacb.loopsAt spansOf
  show ((List.range (n + 1)).drop 1).flatMap (fun m => ((List.range 10).drop 2).filterMap fun k => if p + m * k ≤ n then some (m, k) else none) = _
  rw [range_drop 1 (n + 1), range_drop 1 ((n - p) / 2 + 1)]
  have hs : n + 1 - 1 = ((n - p) / 2 + 1 - 1) + (n - (n - p) / 2) := by omega
  rw [hs, ← List.range'_append_1, List.flatMap_append]
  have e2 : (List.range' (1 + ((n - p) / 2 + 1 - 1)) (n - (n - p) / 2)).flatMap (fun m => ((List.range 10).drop 2).filterMap fun k => if p + m * k ≤ n then some (m, k) else none) = [] := by
    rw [List.flatMap_eq_nil_iff]
    intro m hm
    rw [List.mem_range'_1] at hm
    rw [List.filterMap_eq_nil_iff]
    intro k hk
    rw [range_drop, List.mem_range'_1] at hk
    have : m * 2 ≤ m * k := Nat.mul_le_mul_left m hk.1
    rw [if_neg (by omega)]
  rw [e2, List.append_nil]
  have ha : ∀ (f g : Nat → List (Nat × Nat)) (L : List Nat), (∀ m ∈ L, f m = g m) → L.flatMap f = L.flatMap g := fun f g L hh => by
    rw [List.flatMap_def, List.flatMap_def, List.map_congr_left hh]
  apply ha
  intro m hm
  rw [List.mem_range'_1] at hm
  exact loops_row n p m (by omega) hp
theorem mem_spans {p e : Nat} {x : Nat × Nat} (h : x ∈ spansOf p e) : 1 ≤ x.1 ∧ 2 ≤ x.2 ∧ x.2 ≤ 9 ∧ (p ≤ e → p + x.1 * x.2 ≤ e) := by
  unfold spansOf at h
  rw [List.mem_flatMap] at h
  obtain ⟨m, hm, h⟩ := h
  rw [List.mem_map] at h
  obtain ⟨k, hk, rfl⟩ := h
  rw [range_drop, List.mem_range'_1] at hm hk
  have h9 : Nat.min 9 ((e - p) / m) ≤ 9 := Nat.min_le_left _ _
  have h8 : Nat.min 9 ((e - p) / m) ≤ (e - p) / m := Nat.min_le_right _ _
  refine ⟨hm.1, hk.1, by show k ≤ 9; omega, fun hp => ?_⟩
  have : k ≤ (e - p) / m := by omega
  rw [Nat.le_div_iff_mul_le (by omega), Nat.mul_comm k m] at this
  show p + m * k ≤ e
  omega
end My
namespace My
open VamacBase
open Vamacb (Folded Rounds)

/-! ### what the inner tables hold -/
theorem orElse_nothing (a : Folded) : Vamacb.orElse a Vamacb.nothing = a := by
  obtain ⟨c, b⟩ := a
  unfold Vamacb.orElse Vamacb.nothing
  cases b <;> simp
/-- fold 0's turn -/
def g0 (l : List Deed) (p m k : Nat) (o : Nat) (T : List Folded) : Folded := match (stepAt l p m k o).map fun s => (dAt l (p + o), s) with
  | none => Vamacb.nothing
  | some d => Vamacb.withDeed d ((T.head?).getD Vamacb.nothing)
theorem fold0_tab {l : List Deed} {p m k : Nat} (h : p + m * k ≤ l.length) (hk : 0 < k) : Vamacb.fold 0 (roundsOf l p m k) = ((tabG (g0 l p m k) m m).head?).getD Vamacb.nothing := by
  unfold Vamacb.fold
  simp only [rounds_head h hk]
  rw [← foldr_all]
  congr 2
  have : ∀ (L : List Nat) (b : List Folded), (∀ o ∈ L, o < m) → L.foldr (fun p_1 l_1 => (match Vamacb.deedAt (roundsOf l p m k) p_1 with
      | none => Vamacb.nothing
      | some d => Vamacb.withDeed d ((l_1.head?).getD Vamacb.nothing)) :: l_1) b = L.foldr (fun o T => g0 l p m k o T :: T) b := by
    intro L b hL
    induction L with
    | nil => rfl
    | cons o L ih =>
      rw [List.foldr_cons, List.foldr_cons, ih fun x hx => hL x (List.mem_cons_of_mem _ hx), deedAt_rounds h (hL o (by simp)) hk]
      rfl
  exact this _ _ fun o ho => List.mem_range.mp ho
theorem tab0 {l : List Deed} {p m k : Nat} : ∀ t, t ≤ m → ((tabG (g0 l p m k) m t).head?).getD Vamacb.nothing =
    if ((List.range m).drop (m - t)).all (fun o => (stepAt l p m k o).isSome) = true then ⟨1, some (chain l p m k t (m - t))⟩ else Vamacb.nothing
  | 0, _ => by
    rw [Nat.sub_zero, List.drop_eq_nil_of_le (by simp)]
    rfl
  | t + 1, h => by
    have e : (List.range m).drop (m - (t + 1)) = (m - (t + 1)) :: (List.range m).drop (m - t) := by
      have h1 : m - (t + 1) < (List.range m).length := by rw [List.length_range]; omega
      rw [List.drop_eq_getElem_cons h1, List.getElem_range]
      congr 2
      omega
    have ih := tab0 (l := l) (p := p) (m := m) (k := k) t (by omega)
    rw [e, List.all_cons]
    show g0 l p m k (m - (t + 1)) (tabG (g0 l p m k) m t) = _
    have e3 : m - (t + 1) + 1 = m - t := by omega
    cases hs : stepAt l p m k (m - (t + 1)) with
    | none =>
      have eg : g0 l p m k (m - (t + 1)) (tabG (g0 l p m k) m t) = Vamacb.nothing := by
        generalize tabG (g0 l p m k) m t = T
        unfold g0
        rw [hs]
        rfl
      rw [eg]
      simp
    | some s =>
      have eg : g0 l p m k (m - (t + 1)) (tabG (g0 l p m k) m t) = Vamacb.withDeed (dAt l (p + (m - (t + 1))), s) (((tabG (g0 l p m k) m t).head?).getD Vamacb.nothing) := by
        generalize tabG (g0 l p m k) m t = T
        unfold g0
        rw [hs]
        rfl
      rw [eg, ih]
      cases ((List.range m).drop (m - t)).all (fun o => (stepAt l p m k o).isSome) with
      | false => simp [Vamacb.withDeed, Vamacb.nothing]
      | true =>
        simp only [Option.isSome_some, Bool.and_true, if_true, Vamacb.withDeed, Option.map_some]
        rw [chain, hs, e3]
        rfl
theorem fold0 {l : List Deed} {p m k : Nat} (h : p + m * k ≤ l.length) (hk : 0 < k) : Vamacb.fold 0 (roundsOf l p m k) = if plainL l p m k = true then ⟨1, some (plainBody l p m k)⟩ else Vamacb.nothing := by
  rw [fold0_tab h hk, tab0 m (Nat.le_refl m)]
  unfold plainL plainBody
  rw [Nat.sub_self, List.drop_zero]

/-! ### the bodies of a loop: many_bodies, least_body -/
/-- the loop over the inner spans -/
def goInner (l : List Deed) (p : Nat) (T : List Folded) (o : Nat) (a : Folded) (L : List (Nat × Nat)) : Folded :=
  L.foldl (fun f x => Vamacb.orElse f (Vamacb.withLoop x.2 ⟨1, some (plainBody l (p + o) x.1 x.2)⟩ (atT T (x.1 * x.2 - 1)))) a
def baseB (l : List Deed) (p m k : Nat) (o : Nat) (T : List Folded) : Folded := match stepAt l p m k o with
  | none => Vamacb.nothing
  | some s => Vamacb.withDeed (dAt l (p + o), s) (atT T 0)
def g1 (l : List Deed) (p m k : Nat) (o : Nat) (T : List Folded) : Folded := goInner l p T o (baseB l p m k o T) (innerL l p m k o)
theorem inner_filter (l : List Deed) (p m k o : Nat) (h : p + m * k ≤ l.length) (hk : 0 < k) (T : List Folded) : ∀ (L : List (Nat × Nat)) (a : Folded), (∀ x ∈ L, 1 ≤ x.1 ∧ 2 ≤ x.2 ∧ o + x.1 * x.2 ≤ m) →
    L.foldl (fun f x => match Vamacb.innerAt (roundsOf l p m k) o x.1 x.2 with
      | none => f
      | some i => Vamacb.orElse f (Vamacb.withLoop x.2 (Vamacb.fold 0 i) ((T[o + x.1 * x.2 - o - 1]?).getD Vamacb.nothing))) a
      = goInner l p T o a (L.filter fun x => plainL l (p + o) x.1 x.2 && areSame l p m k o (x.1 * x.2))
  | [], a, _ => rfl
  | x :: L, a, hL => by
    obtain ⟨h1, h2, h3⟩ := hL x (by simp)
    have ih := inner_filter l p m k o h hk T L
    have hmk := mul_le_of_lt (m := m) hk
    rw [List.foldl_cons, innerAt_rounds h hk h3]
    have e1 : o + x.1 * x.2 - o - 1 = x.1 * x.2 - 1 := by omega
    cases hs : areSame l p m k o (x.1 * x.2) with
    | false =>
      rw [if_neg (by decide), List.filter_cons, hs, Bool.and_false, if_neg (by decide)]
      exact ih a fun y hy => hL y (List.mem_cons_of_mem _ hy)
    | true =>
      rw [if_pos rfl, List.filter_cons, hs, Bool.and_true]
      show L.foldl _ (Vamacb.orElse a (Vamacb.withLoop x.2 (Vamacb.fold 0 (roundsOf l (p + o) x.1 x.2)) _)) = _
      rw [fold0 (by omega) (by omega), e1]
      cases hp : plainL l (p + o) x.1 x.2 with
      | false =>
        rw [if_neg (by decide), if_neg (by decide)]
        have e2 : Vamacb.orElse a (Vamacb.withLoop x.2 Vamacb.nothing ((T[x.1 * x.2 - 1]?).getD Vamacb.nothing)) = a := by
          have : Vamacb.withLoop x.2 Vamacb.nothing ((T[x.1 * x.2 - 1]?).getD Vamacb.nothing) = Vamacb.nothing := by simp [Vamacb.withLoop, Vamacb.nothing]
          rw [this, orElse_nothing]
        rw [e2]
        exact ih a fun y hy => hL y (List.mem_cons_of_mem _ hy)
      | true =>
        rw [if_pos rfl, if_pos rfl]
        exact ih _ fun y hy => hL y (List.mem_cons_of_mem _ hy)
theorem spans_shift (p m o : Nat) : spansOf (p + o) (p + m) = spansOf o m := by
  unfold spansOf
  have : p + m - (p + o) = m - o := by omega
  rw [this]
theorem row1 {l : List Deed} {p m k o : Nat} (h : p + m * k ≤ l.length) (hk : 0 < k) (ho : o < m) (T : List Folded) : Vamacb.rowAt (Vamacb.fold 0) (roundsOf l p m k) m o T = g1 l p m k o T := by
  unfold Vamacb.rowAt g1
  rw [loops_spans (Nat.le_of_lt ho)]
  have := inner_filter l p m k o h hk T (spansOf o m) (baseB l p m k o T) fun x hx => by
    obtain ⟨a, b, _, d⟩ := mem_spans hx
    exact ⟨a, b, d (Nat.le_of_lt ho)⟩
  unfold innerL
  rw [spans_shift, ← this]
  have e : o + 1 - o - 1 = 0 := by omega
  have eb : baseB l p m k o T = (match Vamacb.deedAt (roundsOf l p m k) o with
      | none => Vamacb.nothing
      | some d => Vamacb.withDeed d ((T[o + 1 - o - 1]?).getD Vamacb.nothing)) := by
    unfold baseB
    rw [deedAt_rounds h ho hk, e]
    cases stepAt l p m k o <;> rfl
  rw [eb]
  rfl
/-- the table of a loop's bodies: so many offsets from the end -/
def tab1 (l : List Deed) (p m k t : Nat) : List Folded := tabG (g1 l p m k) m t
def bodyF (l : List Deed) (p m k : Nat) : Folded := atT (tab1 l p m k m) 0
theorem fold1 {l : List Deed} {p m k : Nat} (h : p + m * k ≤ l.length) (hk : 0 < k) : Vamacb.fold 1 (roundsOf l p m k) = bodyF l p m k := by
  unfold Vamacb.fold bodyF tab1
  simp only [rounds_head h hk]
  rw [← foldr_all]
  have : ∀ (L : List Nat) (b : List Folded), (∀ o ∈ L, o < m) → L.foldr (fun o T => Vamacb.rowAt (Vamacb.fold 0) (roundsOf l p m k) m o T :: T) b = L.foldr (fun o T => g1 l p m k o T :: T) b := by
    intro L b hL
    induction L with
    | nil => rfl
    | cons o L ih =>
      rw [List.foldr_cons, List.foldr_cons, ih fun x hx => hL x (List.mem_cons_of_mem _ hx), row1 h hk (hL o (by simp))]
  rw [this _ _ fun o ho => List.mem_range.mp ho]
  unfold atT
  rw [List.head?_eq_getElem?]

/-! ### the foldings -/
def goOuter (l : List Deed) (p : Nat) (T : List Folded) (a : Folded) (L : List (Nat × Nat)) : Folded :=
  L.foldl (fun f x => Vamacb.orElse f (Vamacb.withLoop x.2 (bodyF l p x.1 x.2) (atT T (x.1 * x.2 - 1)))) a
def g2 (l : List Deed) (p : Nat) (T : List Folded) : Folded := goOuter l p T (Vamacb.withDeed (dAt l p, 0) (atT T 0)) (spansOf p l.length)
theorem deedAt_one {l : List Deed} {p : Nat} (h : p < l.length) : Vamacb.deedAt [l] p = some (dAt l p, 0) := by
  unfold Vamacb.deedAt Vamacb.column
  simp only [List.filterMap_cons, get_dAt h, List.filterMap_nil]
  rfl
theorem outer_all (l : List Deed) (p : Nat) (T : List Folded) : ∀ (L : List (Nat × Nat)) (a : Folded), (∀ x ∈ L, 1 ≤ x.1 ∧ 2 ≤ x.2 ∧ p + x.1 * x.2 ≤ l.length) →
    L.foldl (fun f x => match Vamacb.innerAt [l] p x.1 x.2 with
      | none => f
      | some i => Vamacb.orElse f (Vamacb.withLoop x.2 (Vamacb.fold 1 i) ((T[p + x.1 * x.2 - p - 1]?).getD Vamacb.nothing))) a = goOuter l p T a L
  | [], a, _ => rfl
  | x :: L, a, hL => by
    obtain ⟨h1, h2, h3⟩ := hL x (by simp)
    rw [List.foldl_cons, innerAt_one h3]
    have e1 : p + x.1 * x.2 - p - 1 = x.1 * x.2 - 1 := by omega
    show L.foldl _ (Vamacb.orElse a (Vamacb.withLoop x.2 (Vamacb.fold 1 (roundsOf l p x.1 x.2)) _)) = _
    rw [fold1 h3 (by omega), e1]
    exact outer_all l p T L _ fun y hy => hL y (List.mem_cons_of_mem _ hy)
theorem row2 {l : List Deed} {p : Nat} (h : p < l.length) (T : List Folded) : Vamacb.rowAt (Vamacb.fold 1) [l] l.length p T = g2 l p T := by
  unfold Vamacb.rowAt g2
  rw [loops_spans (Nat.le_of_lt h), deedAt_one h]
  have := outer_all l p T (spansOf p l.length) (Vamacb.withDeed (dAt l p, 0) (atT T 0)) fun x hx => by
    obtain ⟨a, b, _, d⟩ := mem_spans hx
    exact ⟨a, b, d (Nat.le_of_lt h)⟩
  rw [← this]
  have e : p + 1 - p - 1 = 0 := by omega
  show List.foldl _ (Vamacb.withDeed (dAt l p, 0) ((T[p + 1 - p - 1]?).getD Vamacb.nothing)) _ = _
  rw [e]
  rfl
def tab2 (l : List Deed) (t : Nat) : List Folded := tabG (g2 l) l.length t
theorem foldings_tab (l : List Deed) : Vamacb.foldings l = atT (tab2 l l.length) 0 := by
  show Vamacb.fold 2 [l] = _
  unfold Vamacb.fold tab2
  show (((List.range l.length).foldr (fun p L => Vamacb.rowAt (Vamacb.fold 1) [l] l.length p L :: L) [⟨1, some .done⟩]).head?).getD Vamacb.nothing = _
  rw [← foldr_all]
  have : ∀ (L : List Nat) (b : List Folded), (∀ o ∈ L, o < l.length) → L.foldr (fun p T => Vamacb.rowAt (Vamacb.fold 1) [l] l.length p T :: T) b = L.foldr (fun p T => g2 l p T :: T) b := by
    intro L b hL
    induction L with
    | nil => rfl
    | cons o L ih => rw [List.foldr_cons, List.foldr_cons, ih fun x hx => hL x (List.mem_cons_of_mem _ hx), row2 (hL o (by simp))]
  rw [this _ _ fun o ho => List.mem_range.mp ho]
  unfold atT
  rw [List.head?_eq_getElem?]
end My
namespace My
open VamacBase
open Vamacb (Folded Rounds)

/-! ### what the foldings' programs are like -/
def okF (d : Deed) : Bool := match fldOf d with
  | none => true
  | some f => decide (0 ≤ f ∧ f < 3)
def progF : Prog → Bool
  | .done => true
  | .deed d _ r => okF d && progF r
  | .times _ b r => progF b && progF r
  | .toEnd b r => progF b && progF r
  | .when _ _ b r => progF b && progF r
/-- no loop of more rounds -/
def tmU (B : Nat) : Prog → Bool
  | .done => true
  | .deed _ _ r => tmU B r
  | .times n b r => decide (n ≤ B) && (tmU B b && tmU B r)
  | .toEnd b r => tmU B b && tmU B r
  | .when _ _ b r => tmU B b && tmU B r
/-- a program of deeds and loops, so deep, that tells so many deeds, its fields in range -/
structure Good (d n : Nat) (p : Prog) : Prop where
  plain : Vamacb.isCounted p = true
  deep : p.depth ≤ d
  long : Vamacb.lengthOf p = n
  fields : progF p = true
  few : p.row ≤ n
  small : p.size ≤ (d + 1) * n
  rnd : ∀ B, n ≤ B → tmU B p = true
theorem Good.mono {d d' n : Nat} {p : Prog} (g : Good d n p) (h : d ≤ d') : Good d' n p := ⟨g.plain, Nat.le_trans g.deep h, g.long, g.fields, g.few, Nat.le_trans g.small (Nat.mul_le_mul_right n (Nat.succ_le_succ h)), g.rnd⟩
theorem good_done {d : Nat} : Good d 0 .done := ⟨rfl, Nat.zero_le _, rfl, rfl, Nat.le_refl _, Nat.zero_le _, fun _ _ => rfl⟩
theorem good_deed {d n : Nat} {x : Deed} {s : Int} {r : Prog} (h : okF x = true) (g : Good d n r) : Good d (n + 1) (.deed x s r) :=
  ⟨g.plain, g.deep, by show Vamacb.lengthOf r + 1 = n + 1; rw [g.long], by show (okF x && progF r) = true; rw [h, g.fields]; rfl, by show r.row + 1 ≤ n + 1; exact Nat.succ_le_succ g.few, by
    show r.size + 1 ≤ (d + 1) * (n + 1)
    have := g.small
    rw [Nat.mul_add, Nat.mul_one]
    omega, fun B h => g.rnd B (by omega)⟩
theorem good_times {d n m k : Nat} {b r : Prog} (h : Good d m b) (g : Good (d + 1) n r) (hk : 0 < k * m) : Good (d + 1) (k * m + n) (.times k b r) :=
  ⟨by show (Vamacb.isCounted b && Vamacb.isCounted r) = true; rw [h.plain, g.plain]; rfl, by
    have e : (Prog.times k b r).depth = Nat.max (b.depth + 1) r.depth := rfl
    rw [e]
    exact Nat.max_le.mpr ⟨Nat.succ_le_succ h.deep, g.deep⟩, by show k * Vamacb.lengthOf b + Vamacb.lengthOf r = _; rw [h.long, g.long], by show (progF b && progF r) = true; rw [h.fields, g.fields]; rfl,
    by show r.row + 1 ≤ k * m + n; have := g.few; omega, by
    show b.size + r.size + 1 ≤ (d + 1 + 1) * (k * m + n)
    have h1 := h.small
    have h2 := g.small
    have hk1 : 1 ≤ k := by
      rcases Nat.eq_zero_or_pos k with z | z
      · rw [z, Nat.zero_mul] at hk
        omega
      · exact z
    have h3 : (d + 1) * (1 * m) ≤ (d + 1) * (k * m) := Nat.mul_le_mul_left _ (Nat.mul_le_mul_right m hk1)
    rw [Nat.one_mul] at h3
    rw [Nat.mul_add, Nat.add_mul (d + 1) 1 (k * m), Nat.one_mul]
    omega, fun B hB => by
    have hk1 : 1 ≤ k ∧ 1 ≤ m := by
      rcases Nat.eq_zero_or_pos k with z | z
      · rw [z, Nat.zero_mul] at hk
        omega
      · rcases Nat.eq_zero_or_pos m with y | y
        · rw [y, Nat.mul_zero] at hk
          omega
        · exact ⟨z, y⟩
    have h1 : k * 1 ≤ k * m := Nat.mul_le_mul_left k hk1.2
    have h2 : 1 * m ≤ k * m := Nat.mul_le_mul_right m hk1.1
    show (decide (k ≤ B) && (tmU B b && tmU B r)) = true
    rw [decide_eq_true (by omega), h.rnd B (by omega), g.rnd B (by omega)]
    rfl⟩
/-- the best one, where there is one -/
def GoodF (d n : Nat) (f : Folded) : Prop := ∀ p, f.best = some p → Good d n p
theorem goodF_nothing {d n : Nat} : GoodF d n Vamacb.nothing := fun p e => by cases e
theorem goodF_orElse {d n : Nat} {a b : Folded} (h : GoodF d n a) (g : GoodF d n b) : GoodF d n (Vamacb.orElse a b) := by
  obtain ⟨ca, ba⟩ := a
  obtain ⟨cb, bb⟩ := b
  intro p e
  unfold Vamacb.orElse at e
  cases ba with
  | none => exact g p e
  | some x =>
    cases bb with
    | none => exact h p e
    | some y =>
      simp only at e
      split at e
      · exact g p e
      · exact h p e
theorem goodF_deed {d n : Nat} {x : Deed} {s : Int} {f : Folded} (h : okF x = true) (g : GoodF d n f) : GoodF d (n + 1) (Vamacb.withDeed (x, s) f) := by
  obtain ⟨c, b⟩ := f
  intro p e
  cases b with
  | none => cases e
  | some q =>
    have e' : Prog.deed x s q = p := Option.some.inj e
    rw [← e']
    exact good_deed h (g q rfl)
theorem goodF_loop {d n m k : Nat} {f g : Folded} (h : GoodF d m f) (h2 : GoodF (d + 1) n g) (hk : 0 < k * m) : GoodF (d + 1) (k * m + n) (Vamacb.withLoop k f g) := by
  obtain ⟨c, b⟩ := f
  obtain ⟨c2, b2⟩ := g
  intro p e
  cases b with
  | none => cases e
  | some q =>
    cases b2 with
    | none => cases e
    | some q2 =>
      have e' : Prog.times k q q2 = p := Option.some.inj e
      rw [← e']
      exact good_times (h q rfl) (h2 q2 rfl) hk
/-- a table's entries -/
def GoodT (d : Nat) (T : List Folded) : Prop := ∀ i, i < T.length → GoodF d (T.length - 1 - i) (atT T i)
theorem GoodT.at {d : Nat} {T : List Folded} (g : GoodT d T) {i n : Nat} (h : i < T.length) (e : T.length - 1 - i = n) : GoodF d n (atT T i) := e ▸ g i h
theorem goodT_base {d : Nat} : GoodT d [⟨1, some .done⟩] := fun i h => by
  have e : i = 0 := by simpa using h
  subst e
  intro p q
  have q' : Prog.done = p := Option.some.inj q
  rw [← q']
  exact good_done
theorem goodT_cons {d : Nat} {T : List Folded} {f : Folded} (g : GoodT d T) (h : GoodF d T.length f) : GoodT d (f :: T) := fun i hi => by
  cases i with
  | zero =>
    have e : (f :: T).length - 1 - 0 = T.length := by simp
    rw [e]
    exact h
  | succ i =>
    have hi' : i < T.length := by simpa using hi
    have e : (f :: T).length - 1 - (i + 1) = T.length - 1 - i := by simp only [List.length_cons]; omega
    rw [e]
    exact g i hi'
theorem okF_all {l : List Deed} (h : l.all okF = true) {i : Nat} (hi : i < l.length) : okF (dAt l i) = true := by
  have e := get_dAt hi
  exact List.all_eq_true.mp h _ (List.mem_of_getElem? e)
theorem good_chain {l : List Deed} {p m k : Nat} (hl : l.all okF = true) : ∀ n o, p + o + n ≤ l.length → Good 0 n (chain l p m k n o)
  | 0, _, _ => good_done
  | n + 1, o, h => good_deed (okF_all hl (by omega)) (good_chain hl n (o + 1) (by omega))
theorem goodF_body {l : List Deed} {p m k : Nat} (hl : l.all okF = true) (h : p + m ≤ l.length) : GoodF 0 m ⟨1, some (plainBody l p m k)⟩ := fun q e => by
  have e' : plainBody l p m k = q := Option.some.inj e
  rw [← e']
  exact good_chain hl m 0 (by omega)
theorem goodF_goInner {l : List Deed} {p : Nat} {T : List Folded} {o m : Nat} (hl : l.all okF = true) (hT : GoodT 1 T) (hlen : T.length + o = m) (hm : p + m ≤ l.length) : ∀ (L : List (Nat × Nat)) (a : Folded),
    (∀ x ∈ L, 1 ≤ x.1 ∧ 2 ≤ x.2 ∧ o + x.1 * x.2 ≤ m) → GoodF 1 (m - o) a → GoodF 1 (m - o) (goInner l p T o a L)
  | [], a, _, h => h
  | x :: L, a, hL, h => by
    obtain ⟨h1, h2, h3⟩ := hL x (by simp)
    refine goodF_goInner hl hT hlen hm L _ (fun y hy => hL y (List.mem_cons_of_mem _ hy)) (goodF_orElse h ?_)
    have hpos : 0 < x.2 * x.1 := Nat.mul_pos (by omega) (by omega)
    have hc : x.1 * x.2 = x.2 * x.1 := Nat.mul_comm _ _
    have hx : x.1 ≤ x.2 * x.1 := Nat.le_mul_of_pos_left _ (by omega)
    have hT1 : GoodF 1 (m - o - x.2 * x.1) (atT T (x.1 * x.2 - 1)) := hT.at (by omega) (by omega)
    have := goodF_loop (goodF_body (l := l) (p := p + o) (m := x.1) (k := x.2) hl (by omega)) hT1 hpos
    have e : x.2 * x.1 + (m - o - x.2 * x.1) = m - o := by omega
    rw [e] at this
    exact this
theorem innerL_mem {l : List Deed} {p m k o : Nat} (ho : o ≤ m) {x : Nat × Nat} (h : x ∈ innerL l p m k o) : 1 ≤ x.1 ∧ 2 ≤ x.2 ∧ x.2 ≤ 9 ∧ o + x.1 * x.2 ≤ m ∧ plainL l (p + o) x.1 x.2 = true ∧ areSame l p m k o (x.1 * x.2) = true := by
  unfold innerL at h
  obtain ⟨h1, h2⟩ := List.mem_filter.mp h
  rw [spans_shift] at h1
  obtain ⟨a, b, c, d⟩ := mem_spans h1
  rw [Bool.and_eq_true] at h2
  exact ⟨a, b, c, d ho, h2.1, h2.2⟩
theorem goodT_tab1 {l : List Deed} {p m k : Nat} (hl : l.all okF = true) (hm : p + m ≤ l.length) : ∀ t, t ≤ m → GoodT 1 (tab1 l p m k t)
  | 0, _ => goodT_base
  | t + 1, h => by
    have ih := goodT_tab1 (k := k) hl hm t (by omega)
    have hlen : (tab1 l p m k t).length = t + 1 := tabG_length _ _ _
    refine goodT_cons ih ?_
    rw [show tabG (g1 l p m k) m t = tab1 l p m k t from rfl, hlen]
    have e : m - (m - (t + 1)) = t + 1 := by omega
    have := goodF_goInner (o := m - (t + 1)) (m := m) hl ih (by omega) hm (innerL l p m k (m - (t + 1))) (baseB l p m k (m - (t + 1)) (tab1 l p m k t)) (fun x hx => by
      obtain ⟨a, b, _, d, _⟩ := innerL_mem (by omega) hx
      exact ⟨a, b, d⟩) (by
      unfold baseB
      cases stepAt l p m k (m - (t + 1)) with
      | none => exact goodF_nothing
      | some s =>
        have := goodF_deed (s := s) (okF_all hl (i := p + (m - (t + 1))) (by omega)) (ih.at (i := 0) (n := t) (by omega) (by omega))
        rw [e]
        exact this)
    rw [e] at this
    exact this
theorem goodF_bodyF {l : List Deed} {p m k : Nat} (hl : l.all okF = true) (hm : p + m ≤ l.length) : GoodF 1 m (bodyF l p m k) := by
  have hlen : (tab1 l p m k m).length = m + 1 := tabG_length _ _ _
  exact (goodT_tab1 (k := k) hl hm m (Nat.le_refl m)).at (by omega) (by omega)
theorem goodF_goOuter {l : List Deed} {p : Nat} {T : List Folded} (hl : l.all okF = true) (hT : GoodT 2 T) (hlen : T.length + p = l.length) : ∀ (L : List (Nat × Nat)) (a : Folded),
    (∀ x ∈ L, 1 ≤ x.1 ∧ 2 ≤ x.2 ∧ p + x.1 * x.2 ≤ l.length) → GoodF 2 (l.length - p) a → GoodF 2 (l.length - p) (goOuter l p T a L)
  | [], a, _, h => h
  | x :: L, a, hL, h => by
    obtain ⟨h1, h2, h3⟩ := hL x (by simp)
    refine goodF_goOuter hl hT hlen L _ (fun y hy => hL y (List.mem_cons_of_mem _ hy)) (goodF_orElse h ?_)
    have hpos : 0 < x.2 * x.1 := Nat.mul_pos (by omega) (by omega)
    have hc : x.1 * x.2 = x.2 * x.1 := Nat.mul_comm _ _
    have hx : x.1 ≤ x.2 * x.1 := Nat.le_mul_of_pos_left _ (by omega)
    have hT1 : GoodF 2 (l.length - p - x.2 * x.1) (atT T (x.1 * x.2 - 1)) := hT.at (by omega) (by omega)
    have := goodF_loop (goodF_bodyF (k := x.2) hl (p := p) (m := x.1) (by omega)) hT1 hpos
    have e : x.2 * x.1 + (l.length - p - x.2 * x.1) = l.length - p := by omega
    rw [e] at this
    exact this
theorem goodT_tab2 {l : List Deed} (hl : l.all okF = true) : ∀ t, t ≤ l.length → GoodT 2 (tab2 l t)
  | 0, _ => goodT_base
  | t + 1, h => by
    have ih := goodT_tab2 hl t (by omega)
    have hlen : (tab2 l t).length = t + 1 := tabG_length _ _ _
    refine goodT_cons ih ?_
    rw [show tabG (g2 l) l.length t = tab2 l t from rfl, hlen]
    have e : l.length - (l.length - (t + 1)) = t + 1 := by omega
    have := goodF_goOuter (p := l.length - (t + 1)) hl ih (by omega) (spansOf (l.length - (t + 1)) l.length) (Vamacb.withDeed (dAt l (l.length - (t + 1)), 0) (atT (tab2 l t) 0)) (fun x hx => by
      obtain ⟨a, b, _, d⟩ := mem_spans hx
      exact ⟨a, b, d (by omega)⟩) (by
        have := goodF_deed (s := 0) (okF_all hl (i := l.length - (t + 1)) (by omega)) (ih.at (i := 0) (n := t) (by omega) (by omega))
        rw [e]
        exact this)
    rw [e] at this
    exact this

/-! ### there is one -/
theorem orElse_some {a b : Folded} (h : a.best.isSome = true) : (Vamacb.orElse a b).best.isSome = true := by
  obtain ⟨ca, ba⟩ := a
  obtain ⟨cb, bb⟩ := b
  unfold Vamacb.orElse
  cases ba with
  | none => cases h
  | some x =>
    cases bb with
    | none => rfl
    | some y =>
      simp only
      split <;> rfl
theorem goOuter_some {l : List Deed} {p : Nat} {T : List Folded} : ∀ (L : List (Nat × Nat)) (a : Folded), a.best.isSome = true → (goOuter l p T a L).best.isSome = true
  | [], _, h => h
  | _ :: L, _, h => goOuter_some L _ (orElse_some h)
theorem tab2_some (l : List Deed) : ∀ t i, i < (tab2 l t).length → (atT (tab2 l t) i).best.isSome = true
  | 0, i, h => by
    have e : i = 0 := by simpa [tab2, tabG] using h
    subst e
    rfl
  | t + 1, 0, _ => by
    show (goOuter l _ (tab2 l t) _ _).best.isSome = true
    refine goOuter_some _ _ ?_
    have := tab2_some l t 0 (by rw [show (tab2 l t).length = t + 1 from tabG_length _ _ _]; omega)
    show ((atT (tab2 l t) 0).best.map _).isSome = true
    rw [Option.isSome_map]
    exact this
  | t + 1, i + 1, h => tab2_some l t i (by
    have : (tab2 l (t + 1)).length = (tab2 l t).length + 1 := rfl
    omega)
theorem least_best (l : List Deed) : (atT (tab2 l l.length) 0).best = some (Vamacb.leastOf l) := by
  have h := tab2_some l l.length 0 (by rw [show (tab2 l l.length).length = l.length + 1 from tabG_length _ _ _]; omega)
  unfold Vamacb.leastOf
  rw [foldings_tab]
  cases e : (atT (tab2 l l.length) 0).best with
  | none => rw [e] at h; cases h
  | some p => rfl
theorem good_least {l : List Deed} (hl : l.all okF = true) : Good 2 l.length (Vamacb.leastOf l) := by
  have := goodT_tab2 hl l.length (Nat.le_refl _)
  have hlen : (tab2 l l.length).length = l.length + 1 := tabG_length _ _ _
  exact this.at (n := l.length) (i := 0) (by omega) (by omega) _ (least_best l)

/-! ### how many -/
theorem count_orElse (a b : Folded) : (Vamacb.orElse a b).count = a.count + b.count := rfl
theorem count_loop (k : Nat) (b r : Folded) : (Vamacb.withLoop k b r).count = b.count * r.count := rfl
theorem count_deed (d : Deed × Int) (r : Folded) : (Vamacb.withDeed d r).count = r.count := rfl
theorem spans_len (p e : Nat) : (spansOf p e).length ≤ (e - p) / 2 * 8 := by
  unfold spansOf
  rw [List.length_flatMap]
  have : ∀ L : List Nat, (L.map fun m => (((List.range (Nat.min 9 ((e - p) / m) + 1)).drop 2).map fun k => (m, k)).length).sum ≤ L.length * 8 := by
    intro L
    induction L with
    | nil => simp
    | cons m L ih =>
      rw [List.map_cons, List.sum_cons, List.length_cons, List.length_map, List.length_drop, List.length_range]
      have := Nat.min_le_left 9 ((e - p) / m)
      have e9 : (9 : Nat).min ((e - p) / m) ≤ 9 := this
      omega
  refine Nat.le_trans (this _) ?_
  rw [List.length_drop, List.length_range]
  omega
theorem atT_le {T : List Folded} {B : Nat} (h : ∀ f ∈ T, f.count ≤ B) (i : Nat) : (atT T i).count ≤ B := by
  unfold atT
  cases e : T[i]? with
  | none => exact Nat.zero_le _
  | some f => exact h f (List.mem_of_getElem? e)
theorem count_goInner {l : List Deed} {p : Nat} {T : List Folded} {o B : Nat} (h : ∀ f ∈ T, f.count ≤ B) : ∀ (L : List (Nat × Nat)) (a : Folded), (goInner l p T o a L).count ≤ a.count + L.length * B
  | [], a => by simp [goInner]
  | x :: L, a => by
    refine Nat.le_trans (count_goInner h L _) ?_
    rw [count_orElse, count_loop, Nat.one_mul, List.length_cons, Nat.add_mul, Nat.one_mul]
    have := atT_le h (x.1 * x.2 - 1)
    omega
theorem count_tab1 {l : List Deed} {p m k : Nat} (hm : m ≤ 7) : ∀ t, t ≤ m → ∀ f ∈ tab1 l p m k t, f.count ≤ 32 ^ t
  | 0, _, f, h => by
    have e : f = ⟨1, some .done⟩ := by simpa [tab1, tabG] using h
    rw [e]
    exact Nat.le_refl _
  | t + 1, ht, f, h => by
    have ih := count_tab1 (l := l) (p := p) (k := k) hm t (by omega)
    have hpow : 32 ^ (t + 1) = 32 ^ t * 32 := Nat.pow_succ ..
    rcases List.mem_cons.mp (show f ∈ g1 l p m k (m - (t + 1)) (tab1 l p m k t) :: tab1 l p m k t from h) with rfl | h
    · have h1 := count_goInner (l := l) (p := p) (o := m - (t + 1)) ih (innerL l p m k (m - (t + 1))) (baseB l p m k (m - (t + 1)) (tab1 l p m k t))
      have h2 : (innerL l p m k (m - (t + 1))).length ≤ 24 := by
        unfold innerL
        refine Nat.le_trans (List.length_filter_le _ _) ?_
        rw [spans_shift]
        have := spans_len (m - (t + 1)) m
        omega
      have h3 : (baseB l p m k (m - (t + 1)) (tab1 l p m k t)).count ≤ 32 ^ t := by
        unfold baseB
        cases stepAt l p m k (m - (t + 1)) with
        | none => exact Nat.zero_le _
        | some s =>
          rw [count_deed]
          exact atT_le ih 0
      have h4 := Nat.mul_le_mul_right (32 ^ t) h2
      show (goInner l p (tab1 l p m k t) (m - (t + 1)) (baseB l p m k (m - (t + 1)) (tab1 l p m k t)) (innerL l p m k (m - (t + 1)))).count ≤ _
      omega
    · have := ih f h
      omega
theorem count_bodyF {l : List Deed} {p m k : Nat} (hm : m ≤ 7) : (bodyF l p m k).count ≤ 2 ^ 35 := by
  unfold bodyF
  have h1 := atT_le (count_tab1 (l := l) (p := p) (k := k) hm m (Nat.le_refl m)) 0
  have h2 : 32 ^ m ≤ 32 ^ 7 := Nat.pow_le_pow_right (by decide) hm
  have h3 : (32 : Nat) ^ 7 = 2 ^ 35 := by decide
  omega
end My
namespace My
open VamacBase
open Vamacb (Folded Rounds)

/-! ### plain_loops -/
abbrev PK := Nat × Nat
/-- a dict's pairs with one put in: in its place, or behind -/
def putP (A : List (PK × Nat)) (q : PK) (v : Nat) : List (PK × Nat) :=
  if (A.any fun e => decide (e.1 = q)) = true then A.map (fun e => if e.1 = q then (e.1, v) else e) else A ++ [(q, v)]
/-- the dict behind the loop over a place's spans -/
def turnP (l : List Deed) (p : Nat) (A : List (PK × Nat)) (L : List (Nat × Nat)) : List (PK × Nat) :=
  L.foldl (fun A x => if plainL l p x.1 x.2 = true then putP A (p, x.1) x.2 else A) A
def dictL (l : List Deed) (n : Nat) : List (PK × Nat) := (List.range n).foldl (fun A p => turnP l p A (spansOf p l.length)) []
/-- the last round's number that fits -/
def lastK (l : List Deed) (p m : Nat) : Option Nat := (((List.range (Nat.min 9 ((l.length - p) / m) + 1)).drop 2).filter fun k => plainL l p m k).getLast?
def rowP (l : List Deed) (p : Nat) : List (PK × Nat) := ((List.range ((l.length - p) / 2 + 1)).drop 1).filterMap fun m => (lastK l p m).map fun k => ((p, m), k)
def allP (l : List Deed) (n : Nat) : List (PK × Nat) := (List.range n).flatMap (rowP l)

theorem putP_new {A : List (PK × Nat)} {q : PK} {v : Nat} (h : ∀ e ∈ A, e.1 ≠ q) : putP A q v = A ++ [(q, v)] := by
  unfold putP
  rw [if_neg]
  rw [List.any_eq_true]
  rintro ⟨e, he, z⟩
  exact h e he (of_decide_eq_true z)
theorem map_same {A : List (PK × Nat)} {q : PK} {v : Nat} (h : ∀ e ∈ A, e.1 ≠ q) : A.map (fun e => if e.1 = q then (e.1, v) else e) = A := by
  induction A with
  | nil => rfl
  | cons a A ih =>
    rw [List.map_cons, if_neg (h a (by simp)), ih fun e he => h e (List.mem_cons_of_mem _ he)]
theorem putP_old {A : List (PK × Nat)} {q : PK} {v k : Nat} (h : ∀ e ∈ A, e.1 ≠ q) : putP (A ++ [(q, k)]) q v = A ++ [(q, v)] := by
  unfold putP
  rw [if_pos (by simp), List.map_append, map_same h]
  simp
/-- one length: its last round's number -/
theorem turn_one (l : List Deed) (p m : Nat) (A : List (PK × Nat)) (h : ∀ e ∈ A, e.1 ≠ (p, m)) : ∀ L : List Nat,
    turnP l p A (L.map fun k => (m, k)) = A ++ (((L.filter fun k => plainL l p m k).getLast?).map fun k => ((p, m), k)).toList := by
  intro L
  induction hn : L.length generalizing L with
  | zero =>
    rw [List.eq_nil_of_length_eq_zero hn]
    simp [turnP]
  | succ n ih =>
    have hne : L ≠ [] := by rintro rfl; simp at hn
    obtain ⟨L', k, rfl⟩ : ∃ L' k, L = L' ++ [k] := ⟨L.dropLast, L.getLast hne, (List.dropLast_concat_getLast hne).symm⟩
    have ih' := ih L' (by simpa using hn)
    unfold turnP at ih' ⊢
    rw [List.map_append, List.foldl_append, ih', List.map_cons, List.map_nil, List.foldl_cons, List.foldl_nil, List.filter_append]
    cases hp : plainL l p m k with
    | false => simp [hp]
    | true =>
      simp only [if_true]
      have e : [k].filter (fun k => plainL l p m k) = [k] := by simp [hp]
      rw [e, List.getLast?_append]
      simp only [List.getLast?_singleton, Option.some_or, Option.map_some, Option.toList_some]
      cases hl : (L'.filter fun k => plainL l p m k).getLast? with
      | none =>
        simp only [Option.map_none, Option.toList_none, List.append_nil]
        exact putP_new h
      | some k' =>
        simp only [Option.map_some, Option.toList_some]
        exact putP_old h
theorem turnP_append (l : List Deed) (p : Nat) (A : List (PK × Nat)) (L M : List (Nat × Nat)) : turnP l p A (L ++ M) = turnP l p (turnP l p A L) M := by
  unfold turnP
  rw [List.foldl_append]
theorem turn_all (l : List Deed) (p : Nat) : ∀ (ms : List Nat) (A : List (PK × Nat)), ms.Nodup → (∀ e ∈ A, ∀ m ∈ ms, e.1 ≠ (p, m)) →
    turnP l p A (ms.flatMap fun m => ((List.range (Nat.min 9 ((l.length - p) / m) + 1)).drop 2).map fun k => (m, k)) = A ++ ms.filterMap fun m => (lastK l p m).map fun k => ((p, m), k)
  | [], A, _, _ => by simp [turnP]
  | m :: ms, A, hn, h => by
    obtain ⟨h1, h2⟩ := List.nodup_cons.mp hn
    rw [List.flatMap_cons, turnP_append, turn_one l p m A fun e he => h e he m (by simp)]
    rw [turn_all l p ms _ h2 ?_, List.filterMap_cons]
    · show A ++ ((lastK l p m).map fun k => ((p, m), k)).toList ++ _ = _
      cases lastK l p m with
      | none => simp
      | some k => simp
    · intro e he m' hm'
      rcases List.mem_append.mp he with he | he
      · exact h e he m' (List.mem_cons_of_mem _ hm')
      · have he : e ∈ ((lastK l p m).map fun k => ((p, m), k)).toList := he
        cases hl : lastK l p m with
        | none => rw [hl] at he; simp at he
        | some k =>
          rw [hl] at he
          have e1 : e = ((p, m), k) := by simpa using he
          rw [e1]
          intro q
          have : m = m' := congrArg Prod.snd q
          exact h1 (this ▸ hm')
theorem rowP_fst {l : List Deed} {p : Nat} {e : PK × Nat} (h : e ∈ rowP l p) : e.1.1 = p := by
  unfold rowP at h
  obtain ⟨m, _, h2⟩ := List.mem_filterMap.mp h
  cases hl : lastK l p m with
  | none => rw [hl] at h2; cases h2
  | some k =>
    rw [hl] at h2
    have : ((p, m), k) = e := Option.some.inj h2
    rw [← this]
theorem range_nodup (a n : Nat) : ((List.range n).drop a).Nodup := List.Sublist.nodup (List.drop_sublist a _) List.nodup_range
theorem dictL_eq (l : List Deed) : ∀ n, dictL l n = allP l n
  | 0 => rfl
  | n + 1 => by
    have ih := dictL_eq l n
    unfold dictL allP at ih ⊢
    rw [List.range_succ, List.foldl_append, ih, List.flatMap_append, List.foldl_cons, List.foldl_nil, List.flatMap_cons, List.flatMap_nil, List.append_nil]
    unfold spansOf
    rw [turn_all l n _ _ (range_nodup _ _) ?_]
    · rfl
    · intro e he m _ q
      obtain ⟨p, hp, he⟩ := List.mem_flatMap.mp he
      have h1 := rowP_fst he
      have h2 := List.mem_range.mp hp
      rw [q] at h1
      have h3 : n = p := h1
      omega

/-! ### the specification's loops -/
theorem range_split (a b : Nat) (h : 1 ≤ a) (h2 : a ≤ b) : (List.range b).drop 1 = (List.range a).drop 1 ++ List.range' a (b - a) := by
  rw [range_drop, range_drop]
  have : b - 1 = (a - 1) + (b - a) := by omega
  have e : List.range' a (b - a) = List.range' (1 + (a - 1)) (b - a) := by congr 1; omega
  rw [this, e, List.range'_append_1]
theorem fits_eq {l : List Deed} {p m : Nat} (hp : p < l.length) (hm : 0 < m) :
    (((List.range 10).drop 2).filter fun k => match Vamacb.innerAt [l] p m k with
      | none => false
      | some rs => (List.range m).all fun j => (Vamacb.deedAt rs j).isSome) = ((List.range (Nat.min 9 ((l.length - p) / m) + 1)).drop 2).filter fun k => plainL l p m k := by
  have h1 := loops_row l.length p m hm (Nat.le_of_lt hp)
  have h2 := congrArg (fun L => (L.map (·.2)).filter fun k => plainL l p m k) h1
  simp only [List.map_map, Function.comp_def, List.map_id'] at h2
  rw [← h2]
  have key : ∀ L : List Nat, (∀ k ∈ L, 2 ≤ k) → (L.filter fun k => match Vamacb.innerAt [l] p m k with
      | none => false
      | some rs => (List.range m).all fun j => (Vamacb.deedAt rs j).isSome) = ((L.filterMap fun k => if p + m * k ≤ l.length then some (m, k) else none).map (·.2)).filter fun k => plainL l p m k := by
    intro L
    induction L with
    | nil => intro _; rfl
    | cons k L ih =>
      intro hk
      have ih' := ih fun x hx => hk x (List.mem_cons_of_mem _ hx)
      have hk2 := hk k (by simp)
      rw [List.filter_cons, List.filterMap_cons]
      by_cases hc : p + m * k ≤ l.length
      · rw [if_pos hc, innerAt_one hc, List.map_cons, List.filter_cons, ih']
        have e : ((List.range m).all fun j => (Vamacb.deedAt (roundsOf l p m k) j).isSome) = plainL l p m k := by
          unfold plainL
          rw [Bool.eq_iff_iff, List.all_eq_true, List.all_eq_true]
          constructor
          · intro hh j hj
            have := hh j hj
            rw [deedAt_rounds hc (List.mem_range.mp hj) (by omega), Option.isSome_map] at this
            exact this
          · intro hh j hj
            rw [deedAt_rounds hc (List.mem_range.mp hj) (by omega), Option.isSome_map]
            exact hh j hj
        simp only [e]
      · rw [if_neg hc, innerAt_out hc (Nat.mul_pos hm (by omega)), ih']
        rfl
  exact key _ fun k hk => by
    rw [range_drop, List.mem_range'_1] at hk
    exact hk.1
theorem loops_eq (l : List Deed) : Vamacb.loopsOf l = (allP l l.length).map fun e => (e.1.1, e.1.2, e.2) := by
  unfold Vamacb.loopsOf allP
  rw [List.map_flatMap]
  have ha : ∀ (f g : Nat → List (Nat × Nat × Nat)) (L : List Nat), (∀ m ∈ L, f m = g m) → L.flatMap f = L.flatMap g := fun f g L hh => by
    rw [List.flatMap_def, List.flatMap_def, List.map_congr_left hh]
  apply ha
  intro p hp
  have hp' := List.mem_range.mp hp
  unfold rowP
  rw [List.map_filterMap, range_split ((l.length - p) / 2 + 1) (l.length + 1) (by omega) (by omega), List.filterMap_append]
  have e2 : ∀ m, m ∈ (List.range ((l.length - p) / 2 + 1)).drop 1 → 0 < m := fun m hm => by
    rw [range_drop, List.mem_range'_1] at hm
    omega
  have hF : ∀ m, 0 < m → (((((List.range 10).drop 2).filter fun k => match Vamacb.innerAt [l] p m k with
        | none => false
        | some rs => (List.range m).all fun j => (Vamacb.deedAt rs j).isSome).getLast?).map fun k => (p, m, k)) = (lastK l p m).map fun k => (p, m, k) := fun m hm => by
    rw [fits_eq hp' hm]
    rfl
  have e3 : (List.range' ((l.length - p) / 2 + 1) (l.length + 1 - ((l.length - p) / 2 + 1))).filterMap (fun m => (lastK l p m).map fun k => (p, m, k)) = [] := by
    rw [List.filterMap_eq_nil_iff]
    intro m hm
    rw [List.mem_range'_1] at hm
    have h1 : (l.length - p) / m < 2 := by
      rw [Nat.div_lt_iff_lt_mul (by omega)]
      omega
    have h2 := Nat.min_le_right 9 ((l.length - p) / m)
    have h3 : Nat.min 9 ((l.length - p) / m) ≤ (l.length - p) / m := h2
    unfold lastK
    rw [List.drop_eq_nil_of_le (by rw [List.length_range]; omega)]
    rfl
  have cg : ∀ {a a' b b' : List (Nat × Nat × Nat)}, a = a' → b = b' → a ++ b = a' ++ b' := fun h1 h2 => by rw [h1, h2]
  refine (cg (fm_congr (g := fun m => (lastK l p m).map fun k => (p, m, k)) fun m hm => hF m (e2 m hm)) ((fm_congr (g := fun m => (lastK l p m).map fun k => (p, m, k)) fun m hm => hF m ?_).trans e3)).trans ?_
  · rw [List.mem_range'_1] at hm
    omega
  · show _ ++ [] = _
    rw [List.append_nil]
    apply fm_congr
    intro m _
    cases lastK l p m <;> rfl

/-! ### the keys stand in order -/
def ltP (a b : PK) : Prop := a.1 < b.1 ∨ a.1 = b.1 ∧ a.2 < b.2
theorem allP_sorted (l : List Deed) (n : Nat) : ((allP l n).map (·.1)).Pairwise ltP := by
  unfold allP
  rw [List.map_flatMap]
  induction n with
  | zero => simp
  | succ n ih =>
    rw [List.range_succ, List.flatMap_append, List.pairwise_append]
    refine ⟨ih, ?_, ?_⟩
    · rw [List.flatMap_cons, List.flatMap_nil, List.append_nil]
      unfold rowP
      rw [List.map_filterMap]
      have hs : ((List.range ((l.length - n) / 2 + 1)).drop 1).Pairwise (· < ·) := by
        rw [range_drop]
        exact List.pairwise_lt_range'
      rw [List.pairwise_filterMap]
      refine hs.imp ?_
      intro a b hab x hx y hy
      have hx : ((lastK l n a).map fun k => ((n, a), k)).map (·.1) = some x := hx
      have hy : ((lastK l n b).map fun k => ((n, b), k)).map (·.1) = some y := hy
      cases ha : lastK l n a with
      | none => rw [ha] at hx; cases hx
      | some k =>
        cases hb : lastK l n b with
        | none => rw [hb] at hy; cases hy
        | some k2 =>
          rw [ha] at hx
          rw [hb] at hy
          have e1 : (n, a) = x := Option.some.inj hx
          have e2 : (n, b) = y := Option.some.inj hy
          rw [← e1, ← e2]
          exact Or.inr ⟨rfl, hab⟩
    · intro x hx y hy
      obtain ⟨p, hp, hx⟩ := List.mem_flatMap.mp hx
      obtain ⟨e, he, rfl⟩ := List.mem_map.mp hx
      rw [List.flatMap_cons, List.flatMap_nil, List.append_nil] at hy
      obtain ⟨e', he', rfl⟩ := List.mem_map.mp hy
      have h1 := rowP_fst he
      have h2 := rowP_fst he'
      have h3 := List.mem_range.mp hp
      exact Or.inl (by rw [h1, h2]; exact h3)
theorem sorted_same {a b : List PK} (hp : a.Perm b) (ha : a.Pairwise fun x y => ¬ ltP y x) (hb : b.Pairwise ltP) : a = b := by
  induction b generalizing a with
  | nil => exact hp.eq_nil
  | cons y b ih =>
    obtain ⟨h1, h2⟩ := List.pairwise_cons.mp hb
    cases a with
    | nil => exact absurd hp.symm.eq_nil (by simp)
    | cons x a =>
      obtain ⟨g1, g2⟩ := List.pairwise_cons.mp ha
      have e : x = y := by
        have hx : x ∈ y :: b := hp.subset (by simp)
        have hy : y ∈ x :: a := hp.symm.subset (by simp)
        rcases List.mem_cons.mp hx with e | hx
        · exact e
        · rcases List.mem_cons.mp hy with e | hy
          · exact e.symm
          · exact absurd (h1 x hx) (g1 y hy)
      subst e
      rw [ih (List.Perm.cons_inv hp) g2 h2]
theorem find_key {A : List (PK × Nat)} (h : (A.map (·.1)).Nodup) {e : PK × Nat} (he : e ∈ A) : (A.find? fun x => decide (x.1 = e.1)) = some e := by
  induction A with
  | nil => cases he
  | cons a A ih =>
    rw [List.map_cons] at h
    obtain ⟨h1, h2⟩ := List.nodup_cons.mp h
    rw [List.find?_cons]
    rcases List.mem_cons.mp he with rfl | he
    · simp
    · have : a.1 ≠ e.1 := fun q => h1 (q ▸ List.mem_map.mpr ⟨e, he, rfl⟩)
      rw [decide_eq_false this]
      exact ih h2 he
theorem allP_nodup (l : List Deed) (n : Nat) : ((allP l n).map (·.1)).Nodup := by
  refine (allP_sorted l n).imp ?_
  intro a b h e
  subst e
  rcases h with h | ⟨_, h⟩ <;> omega
end My
namespace My
open VamacBase

/-! ### every m-th of a list -/
def strideN (len p m : Nat) : Nat := (len - p + m - 1) / m
/-- deeds[place::period] -/
def strideL (l : List Deed) (p m : Nat) : List Deed := (List.range (strideN l.length p m)).map fun i => dAt l (p + i * m)
theorem zip_range : ∀ (l : List Deed) (k : Nat) (f : Nat → Bool), (l.zipIdx k).filterMap (fun x => if f x.2 = true then some x.1 else none) = ((List.range l.length).filter fun i => f (k + i)).map fun i => dAt l i
  | [], _, _ => rfl
  | d :: r, k, f => by
    have ih := zip_range r (k + 1) f
    rw [List.zipIdx_cons, List.filterMap_cons, ih, List.length_cons, List.range_succ_eq_map, List.filter_cons]
    have e : ((List.map Nat.succ (List.range r.length)).filter fun i => f (k + i)).map (fun i => dAt (d :: r) i) = ((List.range r.length).filter fun i => f (k + 1 + i)).map fun i => dAt r i := by
      rw [List.filter_map, List.map_map]
      congr 1
      apply List.filter_congr
      intro i _
      show f (k + (i + 1)) = f (k + 1 + i)
      congr 1
      omega
    simp only [Nat.add_zero]
    cases f k with
    | false => simp only [Bool.false_eq_true, if_false]; exact e.symm
    | true =>
      simp only [if_true]
      rw [List.map_cons, e]
      rfl
theorem mods_range (m : Nat) (hm : 0 < m) : ∀ n : Nat, (List.range n).filter (fun i => decide (i % m = 0)) = (List.range ((n + m - 1) / m)).map fun i => i * m
  | 0 => by
    have : (0 + m - 1) / m = 0 := Nat.div_eq_of_lt (by omega)
    rw [this]
    rfl
  | n + 1 => by
    rw [List.range_succ, List.filter_append, mods_range m hm n]
    by_cases h : n % m = 0
    · obtain ⟨q, rfl⟩ : ∃ q, n = m * q := ⟨n / m, by rw [Nat.mul_div_cancel' (Nat.dvd_of_mod_eq_zero h)]⟩
      have e1 : (m * q + m - 1) / m = q := by
        have : m * q + m - 1 = (m - 1) + q * m := by rw [Nat.mul_comm]; omega
        rw [this, Nat.add_mul_div_right _ _ hm, Nat.div_eq_of_lt (by omega)]
        omega
      have e2 : (m * q + 1 + m - 1) / m = q + 1 := by
        have : m * q + 1 + m - 1 = 0 + (q + 1) * m := by rw [Nat.add_mul, Nat.mul_comm]; omega
        rw [this, Nat.add_mul_div_right _ _ hm, Nat.zero_div]
        omega
      rw [e1, e2, List.range_succ, List.map_append]
      simp [h, Nat.mul_comm]
    · have e2 : (n + 1 + m - 1) / m = (n + m - 1) / m := by
        have hd : n = m * (n / m) + n % m := (Nat.div_add_mod n m).symm
        have hlt : n % m < m := Nat.mod_lt _ hm
        have hpos : 0 < n % m := Nat.pos_of_ne_zero h
        have e3 : n + 1 + m - 1 = n % m + (n / m + 1) * m := by rw [Nat.add_mul, Nat.mul_comm (n / m) m]; omega
        have e4 : n + m - 1 = (n % m - 1) + (n / m + 1) * m := by rw [Nat.add_mul, Nat.mul_comm (n / m) m]; omega
        rw [e3, e4, Nat.add_mul_div_right _ _ hm, Nat.add_mul_div_right _ _ hm, Nat.div_eq_of_lt hlt, Nat.div_eq_of_lt (show n % m - 1 < m by omega)]
      rw [e2]
      simp [h]
theorem dAt_drop {l : List Deed} {p i : Nat} : dAt (l.drop p) i = dAt l (p + i) := by
  unfold dAt
  rw [List.getD_eq_getElem?_getD, List.getElem?_drop, ← List.getD_eq_getElem?_getD]
theorem stride_eq {l : List Deed} {p m : Nat} (hm : 0 < m) : ((l.drop p).zipIdx.filterMap fun x => if x.2 % m = 0 then some x.1 else none) = strideL l p m := by
  have h := zip_range (l.drop p) 0 fun i => decide (i % m = 0)
  simp only [decide_eq_true_eq, Nat.zero_add] at h
  rw [h, mods_range m hm, List.map_map, List.length_drop]
  unfold strideL strideN
  apply List.map_congr_left
  intro i _
  exact dAt_drop

/-! ### periods -/
def showPy (l : List Deed) (m : Nat) : Bool := (List.range (Nat.min m l.length)).all fun p => (Vamacb.stepOf (strideL l p m)).isSome
theorem show_eq {l : List Deed} {m : Nat} (hm : 0 < m) : Vamacb.hasPeriod l m = showPy l m := by
  unfold Vamacb.hasPeriod showPy
  rw [decide_eq_true (show 1 ≤ m from hm), Bool.true_and, Bool.eq_iff_iff, List.all_eq_true, List.all_eq_true]
  constructor
  · intro h p hp
    have hp' : p < Nat.min m l.length := List.mem_range.mp hp
    have h1 : Nat.min m l.length ≤ m := Nat.min_le_left _ _
    have h2 : Nat.min m l.length ≤ l.length := Nat.min_le_right _ _
    have := h p (List.mem_range.mpr (by omega))
    rw [Bool.or_eq_true, decide_eq_true_eq, stride_eq hm] at this
    rcases this with z | z
    · exact z
    · omega
  · intro h j hj
    have hj' := List.mem_range.mp hj
    rw [Bool.or_eq_true, decide_eq_true_eq, stride_eq hm]
    by_cases hl : l.length ≤ j
    · exact Or.inr hl
    · refine Or.inl (h j (List.mem_range.mpr ?_))
      show j < min m l.length
      omega
def tailFrom (l : List Deed) (m : Nat) : Nat → Nat
  | 0 => 0
  | t + 1 => if showPy (l.drop (l.length - (t + 1))) m = true then t + 1 else tailFrom l m t
theorem tailFrom_le (l : List Deed) (m : Nat) : ∀ t, tailFrom l m t ≤ t
  | 0 => Nat.le_refl _
  | t + 1 => by
    unfold tailFrom
    split
    · exact Nat.le_refl _
    · exact Nat.le_trans (tailFrom_le l m t) (Nat.le_succ _)
theorem tailFrom_show (l : List Deed) (m : Nat) : ∀ t, 0 < tailFrom l m t → showPy (l.drop (l.length - tailFrom l m t)) m = true
  | 0, h => absurd h (by show ¬ 0 < 0; omega)
  | t + 1, h => by
    unfold tailFrom at h ⊢
    by_cases hs : showPy (l.drop (l.length - (t + 1))) m = true
    · rw [if_pos hs]
      exact hs
    · rw [if_neg hs] at h ⊢
      exact tailFrom_show l m t h
theorem tail_eq {l : List Deed} {m : Nat} (hm : 0 < m) : Vamacb.tailOf l m = tailFrom l m l.length := by
  unfold Vamacb.tailOf
  have key : ∀ n, (((List.range (n + 1)).reverse.find? fun t => Vamacb.hasPeriod (l.drop (l.length - t)) m).getD 0) = tailFrom l m n := by
    intro n
    induction n with
    | zero =>
      show (([0] : List Nat).find? _).getD 0 = 0
      rw [List.find?_cons]
      split <;> rfl
    | succ n ih =>
      rw [List.range_succ, List.reverse_append, List.reverse_singleton, List.singleton_append, List.find?_cons, show_eq hm]
      unfold tailFrom
      cases showPy (l.drop (l.length - (n + 1))) m with
      | true => rfl
      | false => exact ih
  exact key l.length

/-! ### the best period -/
def counts (l : List Deed) (m : Nat) : Bool := decide (m < tailFrom l m l.length) && decide (3 * m ≤ 2 * tailFrom l m l.length)
def better (l : List Deed) (b : Option (Nat × Nat)) (m : Nat) : Option (Nat × Nat) :=
  if (counts l m && (match b with | none => true | some x => decide (x.2 < tailFrom l m l.length))) = true then some (m, tailFrom l m l.length) else b
def bestP (l : List Deed) (n : Nat) : Option (Nat × Nat) := (List.range n).foldl (fun b i => better l b (1 + i)) none
/-- first of the longest -/
def firstMax (g : Nat → Nat) (F : List Nat) : Option (Nat × Nat) := (F.find? fun m => g m == (F.map g).foldl Nat.max 0).map fun m => (m, (F.map g).foldl Nat.max 0)
theorem foldl_max (g : Nat → Nat) : ∀ (F : List Nat) (a : Nat), a ≤ (F.map g).foldl Nat.max a ∧ (∀ x ∈ F, g x ≤ (F.map g).foldl Nat.max a) ∧ ((F.map g).foldl Nat.max a = a ∨ ∃ x ∈ F, g x = (F.map g).foldl Nat.max a)
  | [], a => ⟨Nat.le_refl _, fun x h => (by cases h), Or.inl rfl⟩
  | y :: F, a => by
    obtain ⟨h1, h2, h3⟩ := foldl_max g F (Nat.max a (g y))
    have ha : a ≤ Nat.max a (g y) := Nat.le_max_left _ _
    have hy : g y ≤ Nat.max a (g y) := Nat.le_max_right _ _
    rw [List.map_cons, List.foldl_cons]
    refine ⟨Nat.le_trans ha h1, fun x hx => ?_, ?_⟩
    · rcases List.mem_cons.mp hx with rfl | hx
      · exact Nat.le_trans hy h1
      · exact h2 x hx
    · rcases h3 with e | ⟨x, hx, e⟩
      · by_cases hc : a ≤ g y
        · refine Or.inr ⟨y, by simp, ?_⟩
          rw [e]
          exact (Nat.max_eq_right hc).symm
        · refine Or.inl ?_
          rw [e]
          exact Nat.max_eq_left (by omega)
      · exact Or.inr ⟨x, List.mem_cons_of_mem _ hx, e⟩
theorem firstMax_some {g : Nat → Nat} {F : List Nat} (h : F ≠ []) : ∃ m, firstMax g F = some (m, (F.map g).foldl Nat.max 0) ∧ m ∈ F ∧ g m = (F.map g).foldl Nat.max 0 := by
  obtain ⟨h1, h2, h3⟩ := foldl_max g F 0
  have ex : ∃ x ∈ F, g x = (F.map g).foldl Nat.max 0 := by
    rcases h3 with e | h3
    · cases F with
      | nil => exact absurd rfl h
      | cons y F =>
        refine ⟨y, by simp, ?_⟩
        have := h2 y (by simp)
        omega
    · exact h3
  unfold firstMax
  cases hf : F.find? fun m => g m == (F.map g).foldl Nat.max 0 with
  | none =>
    obtain ⟨x, hx, e⟩ := ex
    have := List.find?_eq_none.mp hf x hx
    exact absurd (beq_iff_eq.mpr e) this
  | some m => exact ⟨m, rfl, List.mem_of_find?_eq_some hf, by have := List.find?_some hf; exact beq_iff_eq.mp this⟩
theorem firstMax_snoc (g : Nat → Nat) (F : List Nat) (m : Nat) : firstMax g (F ++ [m]) = match firstMax g F with
    | none => some (m, g m)
    | some x => if x.2 < g m then some (m, g m) else some x := by
  have em : ((F ++ [m]).map g).foldl Nat.max 0 = Nat.max ((F.map g).foldl Nat.max 0) (g m) := by
    rw [List.map_append, List.foldl_append]
    rfl
  by_cases hF : F = []
  · subst hF
    unfold firstMax
    rw [em]
    have : Nat.max (([] : List Nat).map g |>.foldl Nat.max 0) (g m) = g m := Nat.max_eq_right (Nat.zero_le _)
    rw [this]
    simp
  · obtain ⟨m0, e, hm0, hg⟩ := firstMax_some (g := g) hF
    obtain ⟨_, h2, _⟩ := foldl_max g F 0
    rw [e]
    simp only
    unfold firstMax at e ⊢
    rw [em, List.find?_append]
    by_cases hc : (F.map g).foldl Nat.max 0 < g m
    · rw [if_pos hc]
      have e1 : Nat.max ((F.map g).foldl Nat.max 0) (g m) = g m := Nat.max_eq_right (Nat.le_of_lt hc)
      rw [e1]
      have e2 : F.find? (fun x => g x == g m) = none := by
        rw [List.find?_eq_none]
        intro x hx z
        have := h2 x hx
        have z' := beq_iff_eq.mp z
        omega
      rw [e2]
      simp
    · rw [if_neg hc]
      have e1 : Nat.max ((F.map g).foldl Nat.max 0) (g m) = (F.map g).foldl Nat.max 0 := Nat.max_eq_left (by omega)
      rw [e1]
      cases hf : F.find? fun x => g x == (F.map g).foldl Nat.max 0 with
      | none => rw [hf] at e; cases e
      | some y =>
        rw [hf] at e
        exact e
theorem bestP_eq (l : List Deed) : ∀ n, bestP l n = firstMax (fun m => tailFrom l m l.length) (((List.range n).map fun i => 1 + i).filter (counts l))
  | 0 => rfl
  | n + 1 => by
    have ih := bestP_eq l n
    unfold bestP at ih ⊢
    rw [List.range_succ, List.foldl_append, ih, List.map_append, List.filter_append, List.foldl_cons, List.foldl_nil]
    unfold better
    cases hc : counts l (1 + n) with
    | false => simp [hc]
    | true =>
      have e : ([n].map fun i => 1 + i).filter (counts l) = [1 + n] := by simp [hc]
      rw [e, firstMax_snoc]
      cases firstMax (fun m => tailFrom l m l.length) (((List.range n).map fun i => 1 + i).filter (counts l)) with
      | none => simp
      | some x => simp
/-- next_deed -/
def nextPy (l : List Deed) (m t : Nat) : Deed :=
  if t < 2 * m ∨ hasNumber (dAt l (l.length - m)) = false then dAt l (l.length - m)
  else withNumber (numberOf (dAt l (l.length - m)) + (numberOf (dAt l (l.length - m)) - numberOf (dAt l (l.length - 2 * m)))) (dAt l (l.length - m))
theorem next_eq {l : List Deed} {m t : Nat} (hm : 0 < m) (h1 : m ≤ t) (h2 : t ≤ l.length) : Vamacb.nextOf (l.drop (l.length - t)) m = some (nextPy l m t) := by
  unfold Vamacb.nextOf
  have hl : (l.drop (l.length - t)).length = t := by rw [List.length_drop]; omega
  have e1 : l.length - t + (t - m) = l.length - m := by omega
  have eA : (l.drop (l.length - t))[t - m]? = some (dAt l (l.length - m)) := by
    rw [List.getElem?_drop, get_dAt (show l.length - t + (t - m) < l.length by omega), e1]
  rw [hl, eA, Option.map_some]
  congr 1
  unfold nextPy
  by_cases hc : 2 * m ≤ t
  · rw [if_pos hc, List.getElem?_drop, get_dAt (show l.length - t + (t - 2 * m) < l.length by omega)]
    have e2 : l.length - t + (t - 2 * m) = l.length - 2 * m := by omega
    rw [e2]
    cases hn : hasNumber (dAt l (l.length - m)) with
    | false =>
      rw [if_pos (Or.inr rfl)]
      have : numOf (dAt l (l.length - m)) = none := by
        have := numOf_has (dAt l (l.length - m))
        rw [hn] at this
        simpa using this
      exact (numOf_none this).2.2 _
    | true =>
      rw [if_neg (fun z => z.elim (fun z => by omega) fun z => by cases z)]
      show withNumber _ _ = withNumber _ _
      congr 1
      omega
  · rw [if_neg hc, if_pos (Or.inl (by omega))]
theorem guess_eq (l : List Deed) : Vamacb.guess l = (bestP l (l.length - 1)).map fun x => ⟨x.1, x.2, nextPy l x.1 x.2⟩ := by
  rw [bestP_eq]
  unfold Vamacb.guess
  have hms : (((List.range (l.length + 1)).drop 1).filter (Vamacb.shows l)) = ((List.range (l.length - 1)).map fun i => 1 + i).filter (counts l) := by
    have es : ∀ m ∈ (List.range (l.length + 1)).drop 1, Vamacb.shows l m = counts l m := fun m hm => by
      rw [range_drop, List.mem_range'_1] at hm
      unfold Vamacb.shows counts
      rw [tail_eq (by omega)]
    rw [List.filter_congr es]
    cases hl : l.length with
    | zero => rfl
    | succ n =>
      have e1 : (List.range (n + 1 + 1)).drop 1 = ((List.range n).map fun i => 1 + i) ++ [n + 1] := by
        rw [List.range_succ_eq_map, List.drop_succ_cons, List.drop_zero, List.range_succ, List.map_append]
        congr 1
        apply List.map_congr_left
        intro i _
        show i + 1 = 1 + i
        omega
      have e2 : [n + 1].filter (counts l) = [] := by
        have hlt := tailFrom_le l (n + 1) l.length
        have : counts l (n + 1) = false := by
          unfold counts
          rw [decide_eq_false (by omega)]
          rfl
        simp [this]
      rw [e1, List.filter_append, e2, List.append_nil]
      congr 1
  rw [hms]
  generalize hF : ((List.range (l.length - 1)).map fun i => 1 + i).filter (counts l) = F
  have hF0 : ∀ m ∈ F, 0 < m ∧ counts l m = true := fun m hm => by
    rw [← hF] at hm
    obtain ⟨h1, h2⟩ := List.mem_filter.mp hm
    obtain ⟨i, _, rfl⟩ := List.mem_map.mp h1
    exact ⟨by omega, h2⟩
  have hmap : F.map (Vamacb.tailOf l) = F.map fun m => tailFrom l m l.length := List.map_congr_left fun m hm => tail_eq (hF0 m hm).1
  have hfind : ∀ t, (F.find? fun m => Vamacb.tailOf l m == t) = F.find? fun m => tailFrom l m l.length == t := fun t => by
    have : ∀ G : List Nat, (∀ m ∈ G, 0 < m) → (G.find? fun m => Vamacb.tailOf l m == t) = G.find? fun m => tailFrom l m l.length == t := by
      intro G
      induction G with
      | nil => intro _; rfl
      | cons a G ih =>
        intro h
        rw [List.find?_cons, List.find?_cons, tail_eq (h a (by simp)), ih fun m hm => h m (List.mem_cons_of_mem _ hm)]
    exact this F fun m hm => (hF0 m hm).1
  show (F.find? fun m => Vamacb.tailOf l m == (F.map (Vamacb.tailOf l)).foldl Nat.max 0).bind _ = _
  rw [hmap, hfind]
  unfold firstMax
  cases hf : F.find? fun m => tailFrom l m l.length == (F.map fun m => tailFrom l m l.length).foldl Nat.max 0 with
  | none => rfl
  | some m =>
    have hmem := List.mem_of_find?_eq_some hf
    have hg0 := List.find?_some hf
    have hg := beq_iff_eq.mp hg0
    obtain ⟨h0, hc⟩ := hF0 m hmem
    have hle := tailFrom_le l m l.length
    have hlt : m < tailFrom l m l.length := by
      unfold counts at hc
      rw [Bool.and_eq_true, decide_eq_true_eq] at hc
      exact hc.1
    have hg' : tailFrom l m l.length = (F.map fun m => tailFrom l m l.length).foldl Nat.max 0 := hg
    show (Vamacb.nextOf (l.drop (l.length - (F.map fun m => tailFrom l m l.length).foldl Nat.max 0)) m).map _ = _
    rw [← hg', next_eq h0 (by omega) hle]
    rfl
/-- what was found counts, its deeds are alike -/
theorem bestP_mem {l : List Deed} {n m t : Nat} (h : bestP l n = some (m, t)) : 0 < m ∧ m ≤ n ∧ t = tailFrom l m l.length ∧ m < t := by
  rw [bestP_eq] at h
  by_cases hF : (((List.range n).map fun i => 1 + i).filter (counts l)) = []
  · rw [hF] at h
    cases h
  · obtain ⟨m0, e, hm, hg⟩ := firstMax_some (g := fun m => tailFrom l m l.length) hF
    rw [e] at h
    have e1 := Option.some.inj h
    have e2 : m0 = m := congrArg Prod.fst e1
    have e3 : _ = t := congrArg Prod.snd e1
    subst e2
    obtain ⟨h1, h2⟩ := List.mem_filter.mp hm
    obtain ⟨i, hi, rfl⟩ := List.mem_map.mp h1
    have hi' := List.mem_range.mp hi
    unfold counts at h2
    rw [Bool.and_eq_true, decide_eq_true_eq] at h2
    have hg' : tailFrom l (1 + i) l.length = t := hg.trans e3
    exact ⟨by omega, by omega, hg'.symm, by omega⟩
theorem step_alike {a : Deed} {l : List Deed} (h : (Vamacb.stepOf (a :: l)).isSome = true) : ∀ d ∈ a :: l, alike d a = true := by
  rw [step_py] at h
  by_cases hc : ((a :: l).any fun d => !alike d a) = true
  · have e : stepPy (a :: l) = none := if_pos hc
    rw [e] at h
    cases h
  · intro d hd
    have : ¬ (!alike d a) = true := fun z => hc (List.any_eq_true.mpr ⟨d, hd, z⟩)
    simpa using this
theorem next_alike {l : List Deed} {m t : Nat} (hm : 0 < m) (h1 : 2 * m ≤ t) (h2 : t ≤ l.length) (h : showPy (l.drop (l.length - t)) m = true) : hasNumber (dAt l (l.length - 2 * m)) = hasNumber (dAt l (l.length - m)) := by
  have hl : (l.drop (l.length - t)).length = t := by rw [List.length_drop]; omega
  unfold showPy at h
  rw [List.all_eq_true] at h
  have hr : (t - 2 * m) % m < m := Nat.mod_lt _ hm
  have h3 := h ((t - 2 * m) % m) (List.mem_range.mpr (by rw [hl]; show _ < min m t; omega))
  have hn : strideN t ((t - 2 * m) % m) m = (t - 2 * m) / m + 2 := by
    unfold strideN
    have hd : t - 2 * m = m * ((t - 2 * m) / m) + (t - 2 * m) % m := (Nat.div_add_mod _ _).symm
    have e : t - (t - 2 * m) % m + m - 1 = (m - 1) + ((t - 2 * m) / m + 2) * m := by
      rw [Nat.add_mul, Nat.mul_comm ((t - 2 * m) / m) m]
      omega
    rw [e, Nat.add_mul_div_right _ _ hm, Nat.div_eq_of_lt (by omega)]
    omega
  have mem : ∀ i, i < (t - 2 * m) / m + 2 → dAt l (l.length - t + ((t - 2 * m) % m + i * m)) ∈ strideL (l.drop (l.length - t)) ((t - 2 * m) % m) m := fun i hi => by
    unfold strideL
    rw [hl, hn]
    exact List.mem_map.mpr ⟨i, List.mem_range.mpr hi, dAt_drop⟩
  have m1 := mem ((t - 2 * m) / m) (by omega)
  have m2 := mem ((t - 2 * m) / m + 1) (by omega)
  have hd : t - 2 * m = m * ((t - 2 * m) / m) + (t - 2 * m) % m := (Nat.div_add_mod _ _).symm
  have e1 : l.length - t + ((t - 2 * m) % m + (t - 2 * m) / m * m) = l.length - 2 * m := by rw [Nat.mul_comm ((t - 2 * m) / m) m]; omega
  have e2 : l.length - t + ((t - 2 * m) % m + ((t - 2 * m) / m + 1) * m) = l.length - m := by rw [Nat.add_mul, Nat.mul_comm ((t - 2 * m) / m) m]; omega
  rw [e1] at m1
  rw [e2] at m2
  generalize strideL (l.drop (l.length - t)) ((t - 2 * m) % m) m = S at h3 m1 m2
  cases S with
  | nil => cases m1
  | cons a S =>
    have a1 := (alike_iff.mp (step_alike h3 _ m1)).1
    have a2 := (alike_iff.mp (step_alike h3 _ m2)).1
    exact num_kind (a1.trans a2.symm)
end My
namespace My
open VamacBase

/-! ### numbers read one behind another -/
/-- Numbers.take -/
def takeZ (lo hi : Int) : Reader Int := fun x => match x with
  | [] => none
  | z :: r => if lo ≤ z ∧ z ≤ hi then some (z, r) else none
theorem takeZ_some {lo hi z : Int} {x r : List Int} (h : takeZ lo hi x = some (z, r)) : x = z :: r ∧ lo ≤ z ∧ z ≤ hi := by
  cases x with
  | nil => cases h
  | cons a s =>
    unfold takeZ at h
    simp only at h
    split at h
    · rename_i hc
      have e := Option.some.inj h
      obtain ⟨rfl, rfl⟩ := Prod.mk.inj e
      exact ⟨rfl, hc⟩
    · cases h
theorem readNat_take (lo hi : Nat) (x : List Int) : readNat lo hi x = (takeZ lo hi x).map fun u => (u.1.toNat, u.2) := by
  cases x with
  | nil => rfl
  | cons z r =>
    show (if int lo ≤ z ∧ z ≤ int hi then some (z.toNat, r) else none) = Option.map _ (if (lo : Int) ≤ z ∧ z ≤ (hi : Int) then some (z, r) else none)
    by_cases h : (lo : Int) ≤ z ∧ z ≤ (hi : Int)
    · rw [if_pos h, if_pos (show int lo ≤ z ∧ z ≤ int hi from h)]
      rfl
    · rw [if_neg h, if_neg (show ¬ (int lo ≤ z ∧ z ≤ int hi) from h)]
      rfl
theorem readValue_take (x : List Int) : readValue x = takeZ (-999) 999 x := by
  cases x with
  | nil => rfl
  | cons z r =>
    show (if okValue z = true then some (z, r) else none) = if -999 ≤ z ∧ z ≤ 999 then some (z, r) else none
    have := okValue_iff z
    by_cases h : -999 ≤ z ∧ z ≤ 999
    · rw [if_pos h, if_pos (this.mpr (by omega))]
    · rw [if_neg h, if_neg fun q => h (by have := this.mp q; omega)]
def hasF (s : Int) : Bool := s == 3 || s == 4 || s == 5 || s == 6 || s == 9
def hasN (s : Int) : Bool := s == 3 || s == 4 || s == 9
def takeIf (b : Bool) (lo hi : Int) : Reader (Option Int) := fun x => if b = true then (takeZ lo hi x).map fun u => (some u.1, u.2) else some (none, x)
/-- read_deed -/
def rdT : Reader (Int × Option Int × Option Int) := fun x => (takeZ 0 9 x).bind fun s => (takeIf (hasF s.1) 0 2 s.2).bind fun f => (takeIf (hasN s.1) (-999) 999 f.2).map fun n => ((s.1, f.1, n.1), n.2)
def tripleOf (d : Deed) : Int × Option Int × Option Int := (kindOf d, fldOf d, numOf d)
theorem kind_range (d : Deed) : 0 ≤ kindOf d ∧ kindOf d ≤ 9 := by cases d <;> simp [kindOf]
theorem readField_take (x : List Int) : readField x = (takeZ 0 2 x).map fun u => (u.1.toNat, u.2) := readNat_take 0 2 x
theorem read_one {A : Type} (mk : Nat → A) (r : List Int) (g : A → Option Int) (hg : ∀ n : Nat, g (mk n) = some (n : Int)) (k : Int) (T : A → Int × Option Int × Option Int) (hT : ∀ a, T a = (k, g a, none)) :
    ((takeZ 0 2 r).map fun u => ((k, some u.1, (none : Option Int)), u.2)) = ((readField r).map fun u => (mk u.1, u.2)).map fun u => (T u.1, u.2) := by
  rw [readField_take]
  cases h : takeZ 0 2 r with
  | none => rfl
  | some u =>
    obtain ⟨z, s⟩ := u
    obtain ⟨_, h0, _⟩ := takeZ_some h
    show some ((k, some z, none), s) = some (T (mk z.toNat), s)
    rw [hT, hg, Int.toNat_of_nonneg h0]
theorem read_two {A : Type} (mk : Nat → Int → A) (r : List Int) (k : Int) (T : A → Int × Option Int × Option Int) (hT : ∀ n v, T (mk n v) = (k, some (n : Int), some v)) :
    (((takeZ 0 2 r).map fun u => (some u.1, u.2)).bind fun f => ((takeZ (-999) 999 f.2).map fun u => (some u.1, u.2)).map fun n => ((k, f.1, n.1), n.2)) = ((readPair readField readValue r).map fun u => (mk u.1.1 u.1.2, u.2)).map fun u => (T u.1, u.2) := by
  unfold readPair
  rw [readField_take]
  cases h : takeZ 0 2 r with
  | none => rfl
  | some u =>
    obtain ⟨z, s⟩ := u
    obtain ⟨_, h0, _⟩ := takeZ_some h
    show ((takeZ (-999) 999 s).map fun u => (some u.1, u.2)).map (fun n => ((k, some z, n.1), n.2)) = Option.map _ (Option.map _ ((readValue s).map fun v => ((z.toNat, v.1), v.2)))
    rw [readValue_take]
    cases takeZ (-999) 999 s with
    | none => rfl
    | some v =>
      show some ((k, some z, some v.1), v.2) = some (T (mk z.toNat v.1), v.2)
      rw [hT, Int.toNat_of_nonneg h0]
theorem rdT_eq (x : List Int) : rdT x = (readDeed x).map fun u => (tripleOf u.1, u.2) := by
  cases x with
  | nil => rfl
  | cons z r =>
    by_cases h0 : 0 ≤ z ∧ z ≤ 9
    · have e : rdT (z :: r) = (takeIf (hasF z) 0 2 r).bind fun f => (takeIf (hasN z) (-999) 999 f.2).map fun n => ((z, f.1, n.1), n.2) := by
        unfold rdT takeZ
        simp only [if_pos h0, Option.bind_some]
      rw [e]
      have hz : z = 0 ∨ z = 1 ∨ z = 2 ∨ z = 3 ∨ z = 4 ∨ z = 5 ∨ z = 6 ∨ z = 7 ∨ z = 8 ∨ z = 9 := by omega
      rcases hz with rfl | rfl | rfl | rfl | rfl | rfl | rfl | rfl | rfl | rfl
      · rfl
      · rfl
      · rfl
      · exact read_two Deed.write r 3 tripleOf fun _ _ => rfl
      · exact read_two Deed.add r 4 tripleOf fun _ _ => rfl
      · have := read_one Deed.copy r fldOf (fun _ => rfl) 5 (fun d => (5, fldOf d, none)) fun _ => rfl
        refine Eq.trans ?_ (this.trans ?_)
        · show (Option.map _ (takeZ 0 2 r)).bind _ = _
          cases takeZ 0 2 r <;> rfl
        · show _ = Option.map _ (Option.map _ (readField r))
          cases readField r <;> rfl
      · have := read_one Deed.paste r fldOf (fun _ => rfl) 6 (fun d => (6, fldOf d, none)) fun _ => rfl
        refine Eq.trans ?_ (this.trans ?_)
        · show (Option.map _ (takeZ 0 2 r)).bind _ = _
          cases takeZ 0 2 r <;> rfl
        · show _ = Option.map _ (Option.map _ (readField r))
          cases readField r <;> rfl
      · rfl
      · rfl
      · exact read_two Deed.find r 9 tripleOf fun _ _ => rfl
    · have e : rdT (z :: r) = none := by
        unfold rdT takeZ
        simp only [if_neg h0, Option.bind_none]
      have e2 : readDeed (z :: r) = none := by
        unfold readDeed
        split <;> first
          | rfl
          | (rename_i q; have q1 := (List.cons.inj q).1; omega)
          | (rename_i q; cases q; omega)
      rw [e, e2]
      rfl
/-! ### reading takes numbers off -/
theorem readDeed_okF {x r : List Int} {d : Deed} (h : readDeed x = some (d, r)) : okF d = true ∧ r.length < x.length := by
  have e := rdT_eq x
  rw [h] at e
  have e : rdT x = some (tripleOf d, r) := e
  unfold rdT at e
  cases h1 : takeZ 0 9 x with
  | none => rw [h1] at e; cases e
  | some s =>
    obtain ⟨s, r1⟩ := s
    obtain ⟨rfl, _⟩ := takeZ_some h1
    rw [h1] at e
    have e : ((takeIf (hasF s) 0 2 r1).bind fun f => (takeIf (hasN s) (-999) 999 f.2).map fun n => ((s, f.1, n.1), n.2)) = some (tripleOf d, r) := e
    have fin : ∀ (f : Option Int) (r2 : List Int), takeIf (hasF s) 0 2 r1 = some (f, r2) → (match f with | none => True | some f => 0 ≤ f ∧ f < 3) ∧ r2.length ≤ r1.length := by
      intro f r2 hf
      unfold takeIf at hf
      split at hf
      · cases h2 : takeZ 0 2 r1 with
        | none => rw [h2] at hf; cases hf
        | some u =>
          obtain ⟨u, r3⟩ := u
          obtain ⟨rfl, a, b⟩ := takeZ_some h2
          rw [h2] at hf
          obtain ⟨rfl, rfl⟩ := Prod.mk.inj (Option.some.inj hf)
          exact ⟨⟨a, by omega⟩, by simp⟩
      · obtain ⟨rfl, rfl⟩ := Prod.mk.inj (Option.some.inj hf)
        exact ⟨trivial, Nat.le_refl _⟩
    cases h2 : takeIf (hasF s) 0 2 r1 with
    | none => rw [h2] at e; cases e
    | some f =>
      obtain ⟨f, r2⟩ := f
      obtain ⟨g1, g2⟩ := fin f r2 h2
      rw [h2] at e
      have e : ((takeIf (hasN s) (-999) 999 r2).map fun n => ((s, f, n.1), n.2)) = some (tripleOf d, r) := e
      cases h3 : takeIf (hasN s) (-999) 999 r2 with
      | none => rw [h3] at e; cases e
      | some n =>
        obtain ⟨n, r3⟩ := n
        rw [h3] at e
        obtain ⟨e1, e2⟩ := Prod.mk.inj (Option.some.inj e)
        have ef : f = fldOf d := (Prod.mk.inj (Prod.mk.inj e1).2).1
        have e2 : r3 = r := e2
        subst e2
        refine ⟨?_, ?_⟩
        · unfold okF
          rw [← ef]
          cases f with
          | none => rfl
          | some f => exact decide_eq_true g1
        · have : r3.length ≤ r2.length := by
            unfold takeIf at h3
            split at h3
            · cases h4 : takeZ (-999) 999 r2 with
              | none => rw [h4] at h3; cases h3
              | some u =>
                obtain ⟨u, r4⟩ := u
                obtain ⟨rfl, _⟩ := takeZ_some h4
                rw [h4] at h3
                obtain ⟨_, rfl⟩ := Prod.mk.inj (Option.some.inj h3)
                simp
            · obtain ⟨_, rfl⟩ := Prod.mk.inj (Option.some.inj h3)
              exact Nat.le_refl _
          rw [List.length_cons]
          omega
theorem readNat_lt {lo hi n : Nat} {x r : List Int} (h : readNat lo hi x = some (n, r)) : r.length < x.length ∧ lo ≤ n ∧ n ≤ hi := by
  rw [readNat_take] at h
  cases h1 : takeZ lo hi x with
  | none => rw [h1] at h; cases h
  | some u =>
    obtain ⟨z, s⟩ := u
    obtain ⟨rfl, a, b⟩ := takeZ_some h1
    rw [h1] at h
    obtain ⟨rfl, rfl⟩ := Prod.mk.inj (Option.some.inj h)
    exact ⟨by simp, by omega, by omega⟩
theorem readValue_lt {v : Int} {x r : List Int} (h : readValue x = some (v, r)) : r.length < x.length ∧ okValue v = true := by
  rw [readValue_take] at h
  obtain ⟨rfl, a, b⟩ := takeZ_some h
  exact ⟨by simp, (okValue_iff v).mpr (by omega)⟩
theorem readTimes_length {A : Type} {a : Reader A} : ∀ {n : Nat} {x r : List Int} {l : List A}, readTimes a n x = some (l, r) → l.length = n
  | 0, x, r, l, h => by
    obtain ⟨rfl, _⟩ := Prod.mk.inj (Option.some.inj h)
    rfl
  | n + 1, x, r, l, h => by
    have h : ((a x).bind fun u => (readTimes a n u.2).map fun v => (u.1 :: v.1, v.2)) = some (l, r) := h
    cases h1 : a x with
    | none => rw [h1] at h; cases h
    | some u =>
      rw [h1] at h
      have h : ((readTimes a n u.2).map fun v => (u.1 :: v.1, v.2)) = some (l, r) := h
      cases h2 : readTimes a n u.2 with
      | none => rw [h2] at h; cases h
      | some v =>
        obtain ⟨v, s⟩ := v
        rw [h2] at h
        obtain ⟨rfl, _⟩ := Prod.mk.inj (Option.some.inj h)
        rw [List.length_cons, readTimes_length h2]
theorem readTimes_all {A : Type} {a : Reader A} {P : A → Prop} (hP : ∀ x u r, a x = some (u, r) → P u) : ∀ {n : Nat} {x r : List Int} {l : List A}, readTimes a n x = some (l, r) → ∀ u ∈ l, P u
  | 0, x, r, l, h => by
    obtain ⟨rfl, _⟩ := Prod.mk.inj (Option.some.inj h)
    intro u hu
    cases hu
  | n + 1, x, r, l, h => by
    have h : ((a x).bind fun u => (readTimes a n u.2).map fun v => (u.1 :: v.1, v.2)) = some (l, r) := h
    cases h1 : a x with
    | none => rw [h1] at h; cases h
    | some u =>
      rw [h1] at h
      have h : ((readTimes a n u.2).map fun v => (u.1 :: v.1, v.2)) = some (l, r) := h
      cases h2 : readTimes a n u.2 with
      | none => rw [h2] at h; cases h
      | some v =>
        obtain ⟨v, s⟩ := v
        rw [h2] at h
        obtain ⟨rfl, _⟩ := Prod.mk.inj (Option.some.inj h)
        intro y hy
        rcases List.mem_cons.mp hy with rfl | hy
        · exact hP x u.1 u.2 h1
        · exact readTimes_all hP h2 y hy
/-- one item more -/
theorem readTimes_snoc {A : Type} (a : Reader A) : ∀ (n : Nat) (x : List Int), readTimes a (n + 1) x = (readTimes a n x).bind fun u => (a u.2).map fun v => (u.1 ++ [v.1], v.2)
  | 0, x => by
    show ((a x).bind fun u => (some (([] : List A), u.2)).map fun v => (u.1 :: v.1, v.2)) = (a x).map fun v => ([v.1], v.2)
    cases a x <;> rfl
  | n + 1, x => by
    show ((a x).bind fun u => (readTimes a (n + 1) u.2).map fun v => (u.1 :: v.1, v.2)) = ((a x).bind fun u => (readTimes a n u.2).map fun v => (u.1 :: v.1, v.2)).bind _
    cases a x with
    | none => rfl
    | some u =>
      show (readTimes a (n + 1) u.2).map _ = ((readTimes a n u.2).map _).bind _
      rw [readTimes_snoc a n u.2]
      cases readTimes a n u.2 with
      | none => rfl
      | some v =>
        show ((a v.2).map _).map _ = (a v.2).map _
        cases a v.2 <;> rfl
theorem readTimes_none {A : Type} (a : Reader A) {n m : Nat} {x : List Int} (h : readTimes a n x = none) (hm : n ≤ m) : readTimes a m x = none := by
  induction m with
  | zero =>
    have : n = 0 := by omega
    subst this
    exact h
  | succ m ih =>
    by_cases e : n = m + 1
    · rw [← e]; exact h
    · rw [readTimes_snoc, ih (by omega)]
      rfl

/-! ### programs -/
/-- a piece -/
inductive Pc where
  | deed (d : Deed) (s : Int)
  | times (n : Nat) (b : Prog)
  | toEnd (b : Prog)
  | when (f : Nat) (v : Int) (b : Prog)
def Pc.cons : Pc → Prog → Prog
  | .deed d s, r => .deed d s r
  | .times n b, r => .times n b r
  | .toEnd b, r => .toEnd b r
  | .when f v b, r => .when f v b r
def ofPcs : List Pc → Prog
  | [] => .done
  | c :: l => c.cons (ofPcs l)
/-- read_piece; row: how a row within is read, where that may be -/
def rdPc (row : Option (Reader Prog)) : Reader Pc := fun x => (takeZ 0 3 x).bind fun w =>
  if w.1 = 0 then (readDeed w.2).bind fun d => (if hasNumber d.1 = true then takeZ (-999) 999 d.2 else some (0, d.2)).map fun s => (.deed d.1 s.1, s.2)
  else match row with
    | none => none
    | some rd => if w.1 = 1 then (takeZ 1 9 w.2).bind fun n => (rd n.2).map fun b => (.times n.1.toNat b.1, b.2)
      else if w.1 = 2 then (rd w.2).map fun b => (.toEnd b.1, b.2)
      else (takeZ 0 2 w.2).bind fun f => (takeZ (-999) 999 f.2).bind fun v => (rd v.2).map fun b => (.when f.1.toNat v.1 b.1, b.2)
def rdRowW (row : Option (Reader Prog)) : Reader Prog := fun x => (takeZ 0 16 x).bind fun n => (readTimes (rdPc row) n.1.toNat n.2).map fun u => (ofPcs u.1, u.2)
/-- how a row is read that may have so many more within one another -/
def below : Nat → Option (Reader Prog)
  | 0 => none
  | k + 1 => some (rdRowW (below k))
def rdRow (k : Nat) : Reader Prog := rdRowW (below k)
/-- of a program read whole: many_pieces -/
def wholePy (l : List Int) : Option Prog := match rdRow 3 l with
  | some (p, []) => if p.size ≤ 16 then some p else none
  | _ => none

def filt (k : Nat) (o : Option (Prog × List Int)) : Option (Prog × List Int) := o.bind fun u => if u.1.depth ≤ k then some u else none
def rowS (f : Nat) (y : List Int) : Option (Prog × List Int) := (readNat 0 PIECES y).bind fun k => readPieces f k.1 k.2
theorem rp_zero (f : Nat) (x : List Int) : readPieces (f + 1) 0 x = some (.done, x) := rfl
theorem rp_deed (f n : Nat) (y : List Int) : readPieces (f + 1) (n + 1) (0 :: y) = (readDeed y).bind fun d => (if hasNumber d.1 then readValue d.2 else some (0, d.2)).bind fun s => (readPieces f n s.2).map fun r => (.deed d.1 s.1 r.1, r.2) := rfl
theorem rp_times (f n : Nat) (y : List Int) : readPieces (f + 1) (n + 1) (1 :: y) = (readNat 1 TIMES y).bind fun k => (rowS f k.2).bind fun b => (readPieces f n b.2).map fun r => (.times k.1 b.1 r.1, r.2) := rfl
theorem rp_toEnd (f n : Nat) (y : List Int) : readPieces (f + 1) (n + 1) (2 :: y) = (rowS f y).bind fun b => (readPieces f n b.2).map fun r => (.toEnd b.1 r.1, r.2) := rfl
theorem rp_when (f n : Nat) (y : List Int) : readPieces (f + 1) (n + 1) (3 :: y) = (readPair readField readValue y).bind fun u => (rowS f u.2).bind fun b => (readPieces f n b.2).map fun r => (.when u.1.1 u.1.2 b.1 r.1, r.2) := rfl
theorem rp_other (f n : Nat) (z : Int) (y : List Int) (h : ¬ (0 ≤ z ∧ z ≤ 3)) : readPieces (f + 1) (n + 1) (z :: y) = none := by
  unfold readPieces
  simp only [Nat.add_one_ne_zero, if_false]
  split <;> first
    | rfl
    | (rename_i q; have q1 := (List.cons.inj q).1; omega)
theorem readPair_len {x r : List Int} {u : Nat × Int} (h : readPair readField readValue x = some (u, r)) : r.length < x.length := by
  unfold readPair at h
  cases h1 : readField x with
  | none => rw [h1] at h; cases h
  | some a =>
    rw [h1] at h
    have h : ((readValue a.2).map fun v => ((a.1, v.1), v.2)) = some (u, r) := h
    cases h2 : readValue a.2 with
    | none => rw [h2] at h; cases h
    | some b =>
      rw [h2] at h
      obtain ⟨_, rfl⟩ := Prod.mk.inj (Option.some.inj h)
      have := (readNat_lt (x := x) (r := a.2) (n := a.1) h1).1
      have := (readValue_lt (x := a.2) (r := b.2) (v := b.1) h2).1
      omega
/-- no more is left than there was -/
theorem rp_len : ∀ (f n : Nat) (x r : List Int) (p : Prog), readPieces f n x = some (p, r) → r.length ≤ x.length
  | 0, n, x, r, p, h => by cases h
  | f + 1, 0, x, r, p, h => by
    rw [rp_zero] at h
    obtain ⟨_, rfl⟩ := Prod.mk.inj (Option.some.inj h)
    exact Nat.le_refl _
  | f + 1, n + 1, [], r, p, h => by cases h
  | f + 1, n + 1, z :: y, r, p, h => by
    have row : ∀ {y' r' : List Int} {b : Prog}, rowS f y' = some (b, r') → r'.length ≤ y'.length := fun {y' r' b} hr => by
      unfold rowS at hr
      cases h1 : readNat 0 PIECES y' with
      | none => rw [h1] at hr; cases hr
      | some k =>
        rw [h1] at hr
        have := rp_len f k.1 k.2 r' b hr
        have := (readNat_lt (x := y') (r := k.2) (n := k.1) h1).1
        omega
    by_cases hz : 0 ≤ z ∧ z ≤ 3
    · have hz' : z = 0 ∨ z = 1 ∨ z = 2 ∨ z = 3 := by omega
      rw [List.length_cons]
      rcases hz' with rfl | rfl | rfl | rfl
      · rw [rp_deed] at h
        cases h1 : readDeed y with
        | none => rw [h1] at h; cases h
        | some d =>
          have l1 := (readDeed_okF (x := y) (r := d.2) (d := d.1) h1).2
          rw [h1] at h
          have h : ((if hasNumber d.1 then readValue d.2 else some (0, d.2)).bind fun s => (readPieces f n s.2).map fun r => (Prog.deed d.1 s.1 r.1, r.2)) = some (p, r) := h
          cases h2 : (if hasNumber d.1 then readValue d.2 else some (0, d.2)) with
          | none => rw [h2] at h; cases h
          | some s =>
            have l2 : s.2.length ≤ d.2.length := by
              split at h2
              · exact Nat.le_of_lt (readValue_lt (x := d.2) (r := s.2) (v := s.1) h2).1
              · have := Option.some.inj h2
                rw [← this]
                exact Nat.le_refl _
            rw [h2] at h
            have h : ((readPieces f n s.2).map fun r => (Prog.deed d.1 s.1 r.1, r.2)) = some (p, r) := h
            cases h3 : readPieces f n s.2 with
            | none => rw [h3] at h; cases h
            | some u =>
              rw [h3] at h
              obtain ⟨_, rfl⟩ := Prod.mk.inj (Option.some.inj h)
              have := rp_len f n s.2 u.2 u.1 h3
              omega
      · rw [rp_times] at h
        cases h1 : readNat 1 TIMES y with
        | none => rw [h1] at h; cases h
        | some k =>
          have l1 := (readNat_lt (x := y) (r := k.2) (n := k.1) h1).1
          rw [h1] at h
          have h : ((rowS f k.2).bind fun b => (readPieces f n b.2).map fun r => (Prog.times k.1 b.1 r.1, r.2)) = some (p, r) := h
          cases h2 : rowS f k.2 with
          | none => rw [h2] at h; cases h
          | some b =>
            have l2 := row (b := b.1) (r' := b.2) h2
            rw [h2] at h
            have h : ((readPieces f n b.2).map fun r => (Prog.times k.1 b.1 r.1, r.2)) = some (p, r) := h
            cases h3 : readPieces f n b.2 with
            | none => rw [h3] at h; cases h
            | some u =>
              rw [h3] at h
              obtain ⟨_, rfl⟩ := Prod.mk.inj (Option.some.inj h)
              have := rp_len f n b.2 u.2 u.1 h3
              omega
      · rw [rp_toEnd] at h
        cases h2 : rowS f y with
        | none => rw [h2] at h; cases h
        | some b =>
          have l2 := row (b := b.1) (r' := b.2) h2
          rw [h2] at h
          have h : ((readPieces f n b.2).map fun r => (Prog.toEnd b.1 r.1, r.2)) = some (p, r) := h
          cases h3 : readPieces f n b.2 with
          | none => rw [h3] at h; cases h
          | some u =>
            rw [h3] at h
            obtain ⟨_, rfl⟩ := Prod.mk.inj (Option.some.inj h)
            have := rp_len f n b.2 u.2 u.1 h3
            omega
      · rw [rp_when] at h
        cases h1 : readPair readField readValue y with
        | none => rw [h1] at h; cases h
        | some k =>
          have l1 := readPair_len (x := y) (r := k.2) (u := k.1) h1
          rw [h1] at h
          have h : ((rowS f k.2).bind fun b => (readPieces f n b.2).map fun r => (Prog.when k.1.1 k.1.2 b.1 r.1, r.2)) = some (p, r) := h
          cases h2 : rowS f k.2 with
          | none => rw [h2] at h; cases h
          | some b =>
            have l2 := row (b := b.1) (r' := b.2) h2
            rw [h2] at h
            have h : ((readPieces f n b.2).map fun r => (Prog.when k.1.1 k.1.2 b.1 r.1, r.2)) = some (p, r) := h
            cases h3 : readPieces f n b.2 with
            | none => rw [h3] at h; cases h
            | some u =>
              rw [h3] at h
              obtain ⟨_, rfl⟩ := Prod.mk.inj (Option.some.inj h)
              have := rp_len f n b.2 u.2 u.1 h3
              omega
    · rw [rp_other f n z y hz] at h
      cases h
theorem rowS_len {f : Nat} {y r : List Int} {b : Prog} (hr : rowS f y = some (b, r)) : r.length < y.length := by
  unfold rowS at hr
  cases h1 : readNat 0 PIECES y with
  | none => rw [h1] at hr; cases hr
  | some k =>
    rw [h1] at hr
    have := rp_len f k.1 k.2 r b hr
    have := (readNat_lt (x := y) (r := k.2) (n := k.1) h1).1
    omega
theorem filt_map1 (k : Nat) (g : Prog → Prog) (hg : ∀ r, (g r).depth = r.depth) (o : Option (Prog × List Int)) : filt k (o.map fun r => (g r.1, r.2)) = (filt k o).map fun r => (g r.1, r.2) := by
  cases o with
  | none => rfl
  | some u =>
    show (if (g u.1).depth ≤ k then some (g u.1, u.2) else none) = Option.map _ (if u.1.depth ≤ k then some u else none)
    rw [hg]
    split <;> rfl
/-- a piece with a row within -/
theorem filt_map2 (k : Nat) (g : Prog → Prog → Prog) (hg : ∀ b r, (g b r).depth = Nat.max (b.depth + 1) r.depth) (o : Option (Prog × List Int)) (rest : List Int → Option (Prog × List Int)) :
    filt (k + 1) (o.bind fun b => (rest b.2).map fun r => (g b.1 r.1, r.2)) = (filt k o).bind fun b => (filt (k + 1) (rest b.2)).map fun r => (g b.1 r.1, r.2) := by
  cases o with
  | none => rfl
  | some b =>
    show filt (k + 1) ((rest b.2).map fun r => (g b.1 r.1, r.2)) = (if b.1.depth ≤ k then some b else none).bind _
    by_cases hb : b.1.depth ≤ k
    · rw [if_pos hb]
      show _ = (filt (k + 1) (rest b.2)).map _
      cases rest b.2 with
      | none => rfl
      | some u =>
        show (if (g b.1 u.1).depth ≤ k + 1 then some (g b.1 u.1, u.2) else none) = Option.map _ (if u.1.depth ≤ k + 1 then some u else none)
        rw [hg]
        by_cases hu : u.1.depth ≤ k + 1
        · rw [if_pos hu, if_pos (Nat.max_le.mpr ⟨by omega, hu⟩)]
          rfl
        · rw [if_neg hu, if_neg fun z => hu (Nat.le_trans (Nat.le_max_right _ _) z)]
          rfl
    · rw [if_neg hb]
      show _ = none
      cases rest b.2 with
      | none => rfl
      | some u =>
        show (if (g b.1 u.1).depth ≤ k + 1 then some (g b.1 u.1, u.2) else none) = none
        rw [hg, if_neg fun z => hb (by have := Nat.le_trans (Nat.le_max_left _ _) z; omega)]
theorem filt_map0 (g : Prog → Prog → Prog) (hg : ∀ b r, (g b r).depth = Nat.max (b.depth + 1) r.depth) (o : Option (Prog × List Int)) (rest : List Int → Option (Prog × List Int)) :
    filt 0 (o.bind fun b => (rest b.2).map fun r => (g b.1 r.1, r.2)) = none := by
  cases o with
  | none => rfl
  | some b =>
    show filt 0 ((rest b.2).map fun r => (g b.1 r.1, r.2)) = none
    cases rest b.2 with
    | none => rfl
    | some u =>
      show (if (g b.1 u.1).depth ≤ 0 then some (g b.1 u.1, u.2) else none) = none
      rw [hg, if_neg fun z => by have := Nat.le_trans (Nat.le_max_left _ _) z; omega]
def pcsP (k n : Nat) (x : List Int) : Option (Prog × List Int) := (readTimes (rdPc (below k)) n x).map fun u => (ofPcs u.1, u.2)
theorem pcsP_succ (k n : Nat) (x : List Int) : pcsP k (n + 1) x = (rdPc (below k) x).bind fun c => (pcsP k n c.2).map fun r => (c.1.cons r.1, r.2) := by
  unfold pcsP
  show Option.map _ ((rdPc (below k) x).bind fun u => (readTimes (rdPc (below k)) n u.2).map fun v => (u.1 :: v.1, v.2)) = _
  cases rdPc (below k) x with
  | none => rfl
  | some u =>
    show Option.map _ ((readTimes (rdPc (below k)) n u.2).map _) = Option.map _ ((readTimes (rdPc (below k)) n u.2).map _)
    cases readTimes (rdPc (below k)) n u.2 <;> rfl
theorem bind_congr' {A B : Type} {o : Option A} {f g : A → Option B} (h : ∀ a, o = some a → f a = g a) : o.bind f = o.bind g := by
  cases o with
  | none => rfl
  | some a => exact h a rfl
/-- THE READERS AGREE: with fuel enough, the rows that are too deep refused -/
theorem rp_pcs : ∀ (f n k : Nat) (x : List Int), x.length + 1 ≤ f → pcsP k n x = filt k (readPieces f n x)
  | 0, n, k, x, h => by omega
  | f + 1, 0, k, x, _ => by
    rw [rp_zero]
    show some (Prog.done, x) = if (Prog.done).depth ≤ k then some (Prog.done, x) else none
    exact (if_pos (show (Prog.done).depth ≤ k from Nat.zero_le k)).symm
  | f + 1, n + 1, k, [], _ => by
    rw [pcsP_succ]
    rfl
  | f + 1, n + 1, k, z :: y, h => by
    have hy : y.length + 1 ≤ f := by simpa using h
    rw [pcsP_succ]
    have row : ∀ (k' : Nat) (y' : List Int), y'.length ≤ y.length → rdRowW (below k') y' = filt k' (rowS f y') := fun k' y' hy' => by
      unfold rdRowW rowS
      rw [readNat_take]
      show (takeZ 0 16 y').bind _ = filt k' (((takeZ 0 16 y').map _).bind _)
      cases h1 : takeZ 0 16 y' with
      | none => rfl
      | some u =>
        obtain ⟨u, r1⟩ := u
        obtain ⟨rfl, _⟩ := takeZ_some h1
        rw [List.length_cons] at hy'
        exact rp_pcs f u.toNat k' r1 (by omega)
    by_cases hz : 0 ≤ z ∧ z ≤ 3
    · have ht : takeZ 0 3 (z :: y) = some (z, y) := if_pos hz
      have hz' : z = 0 ∨ z = 1 ∨ z = 2 ∨ z = 3 := by omega
      rcases hz' with rfl | rfl | rfl | rfl
      · -- a deed
        rw [rp_deed]
        have e : rdPc (below k) (0 :: y) = (readDeed y).bind fun d => (if hasNumber d.1 = true then takeZ (-999) 999 d.2 else some (0, d.2)).map fun s => (.deed d.1 s.1, s.2) := by
          unfold rdPc
          rw [ht]
          rfl
        rw [e]
        cases h1 : readDeed y with
        | none => rfl
        | some d =>
          have l1 := (readDeed_okF (x := y) (r := d.2) (d := d.1) h1).2
          show ((if hasNumber d.1 = true then takeZ (-999) 999 d.2 else some (0, d.2)).map fun s => (Pc.deed d.1 s.1, s.2)).bind _ = filt k ((if hasNumber d.1 then readValue d.2 else some (0, d.2)).bind _)
          rw [readValue_take]
          cases h2 : (if hasNumber d.1 = true then takeZ (-999) 999 d.2 else some (0, d.2)) with
          | none => rfl
          | some s =>
            have l2 : s.2.length ≤ d.2.length := by
              split at h2
              · obtain ⟨e, _⟩ := takeZ_some (z := s.1) (r := s.2) h2
                rw [e]
                simp
              · have := Option.some.inj h2
                rw [← this]
                exact Nat.le_refl _
            show (pcsP k n s.2).map (fun r => ((Pc.deed d.1 s.1).cons r.1, r.2)) = filt k ((readPieces f n s.2).map fun r => (Prog.deed d.1 s.1 r.1, r.2))
            rw [rp_pcs f n k s.2 (by omega)]
            exact (filt_map1 k (fun r => Prog.deed d.1 s.1 r) (fun _ => rfl) _).symm
      · -- a loop of n rounds
        rw [rp_times]
        cases k with
        | zero =>
          have e : rdPc (below 0) (1 :: y) = none := by
            unfold rdPc
            rw [ht]
            rfl
          rw [e, readNat_take]
          show none = filt 0 (((takeZ 1 9 y).map _).bind _)
          cases takeZ 1 9 y with
          | none => rfl
          | some u => exact (filt_map0 (fun b r => Prog.times u.1.toNat b r) (fun _ _ => rfl) _ _).symm
        | succ k =>
          have e : rdPc (below (k + 1)) (1 :: y) = (takeZ 1 9 y).bind fun n => (rdRowW (below k) n.2).map fun b => (.times n.1.toNat b.1, b.2) := by
            unfold rdPc
            rw [ht]
            rfl
          rw [e, readNat_take]
          show ((takeZ 1 9 y).bind _).bind _ = filt (k + 1) (((takeZ 1 9 y).map _).bind _)
          cases h1 : takeZ 1 9 y with
          | none => rfl
          | some u =>
            obtain ⟨u, r1⟩ := u
            obtain ⟨rfl, _⟩ := takeZ_some h1
            show ((rdRowW (below k) r1).map fun b => (Pc.times u.toNat b.1, b.2)).bind (fun c => (pcsP (k + 1) n c.2).map fun r => (c.1.cons r.1, r.2)) = filt (k + 1) ((rowS f r1).bind fun b => (readPieces f n b.2).map fun r => (Prog.times u.toNat b.1 r.1, r.2))
            rw [filt_map2 k (fun b r => Prog.times u.toNat b r) (fun _ _ => rfl), row k r1 (by simp)]
            cases h2 : filt k (rowS f r1) with
            | none => rfl
            | some b =>
              have hb : b.2.length < r1.length := by
                unfold filt at h2
                cases h3 : rowS f r1 with
                | none => rw [h3] at h2; cases h2
                | some b' =>
                  rw [h3] at h2
                  have h2 : (if b'.1.depth ≤ k then some b' else none) = some b := h2
                  split at h2
                  · have := Option.some.inj h2
                    subst this
                    exact rowS_len (b := b'.1) h3
                  · cases h2
              show (pcsP (k + 1) n b.2).map (fun r => ((Pc.times u.toNat b.1).cons r.1, r.2)) = _
              rw [rp_pcs f n (k + 1) b.2 (by simp at hy; omega)]
              rfl
      · rw [rp_toEnd]
        cases k with
        | zero =>
          have e : rdPc (below 0) (2 :: y) = none := by
            unfold rdPc
            rw [ht]
            rfl
          rw [e]
          exact (filt_map0 (fun b r => Prog.toEnd b r) (fun _ _ => rfl) _ _).symm
        | succ k =>
          have e : rdPc (below (k + 1)) (2 :: y) = (rdRowW (below k) y).map fun b => (.toEnd b.1, b.2) := by
            unfold rdPc
            rw [ht]
            rfl
          rw [e]
          show ((rdRowW (below k) y).map fun b => (Pc.toEnd b.1, b.2)).bind (fun c => (pcsP (k + 1) n c.2).map fun r => (c.1.cons r.1, r.2)) = filt (k + 1) ((rowS f y).bind fun b => (readPieces f n b.2).map fun r => (Prog.toEnd b.1 r.1, r.2))
          rw [filt_map2 k (fun b r => Prog.toEnd b r) (fun _ _ => rfl), row k y (Nat.le_refl _)]
          cases h2 : filt k (rowS f y) with
          | none => rfl
          | some b =>
            have hb : b.2.length < y.length := by
              unfold filt at h2
              cases h3 : rowS f y with
              | none => rw [h3] at h2; cases h2
              | some b' =>
                rw [h3] at h2
                have h2 : (if b'.1.depth ≤ k then some b' else none) = some b := h2
                split at h2
                · have := Option.some.inj h2
                  subst this
                  exact rowS_len (b := b'.1) h3
                · cases h2
            show (pcsP (k + 1) n b.2).map (fun r => ((Pc.toEnd b.1).cons r.1, r.2)) = _
            rw [rp_pcs f n (k + 1) b.2 (by omega)]
            rfl
      · rw [rp_when]
        have hpair : readPair readField readValue y = (takeZ 0 2 y).bind fun f => (takeZ (-999) 999 f.2).map fun v => ((f.1.toNat, v.1), v.2) := by
          unfold readPair
          rw [readField_take]
          cases takeZ 0 2 y with
          | none => rfl
          | some u =>
            show (readValue u.2).map _ = (takeZ (-999) 999 u.2).map _
            rw [readValue_take]
        rw [hpair]
        cases k with
        | zero =>
          have e : rdPc (below 0) (3 :: y) = none := by
            unfold rdPc
            rw [ht]
            rfl
          rw [e]
          show none = filt 0 (((takeZ 0 2 y).bind _).bind _)
          cases takeZ 0 2 y with
          | none => rfl
          | some u =>
            show none = filt 0 (((takeZ (-999) 999 u.2).map _).bind _)
            cases takeZ (-999) 999 u.2 with
            | none => rfl
            | some v => exact (filt_map0 (fun b r => Prog.when u.1.toNat v.1 b r) (fun _ _ => rfl) _ _).symm
        | succ k =>
          have e : rdPc (below (k + 1)) (3 :: y) = (takeZ 0 2 y).bind fun f => (takeZ (-999) 999 f.2).bind fun v => (rdRowW (below k) v.2).map fun b => (.when f.1.toNat v.1 b.1, b.2) := by
            unfold rdPc
            rw [ht]
            rfl
          rw [e]
          show ((takeZ 0 2 y).bind _).bind _ = filt (k + 1) (((takeZ 0 2 y).bind _).bind _)
          cases h1 : takeZ 0 2 y with
          | none => rfl
          | some u =>
            obtain ⟨u, r1⟩ := u
            obtain ⟨rfl, _⟩ := takeZ_some h1
            show ((takeZ (-999) 999 r1).bind _).bind _ = filt (k + 1) (((takeZ (-999) 999 r1).map _).bind _)
            cases h2 : takeZ (-999) 999 r1 with
            | none => rfl
            | some v =>
              obtain ⟨v, r2⟩ := v
              obtain ⟨rfl, _⟩ := takeZ_some h2
              show ((rdRowW (below k) r2).map fun b => (Pc.when u.toNat v b.1, b.2)).bind (fun c => (pcsP (k + 1) n c.2).map fun r => (c.1.cons r.1, r.2)) = filt (k + 1) ((rowS f r2).bind fun b => (readPieces f n b.2).map fun r => (Prog.when u.toNat v b.1 r.1, r.2))
              rw [filt_map2 k (fun b r => Prog.when u.toNat v b r) (fun _ _ => rfl), row k r2 (by simp; omega)]
              cases h4 : filt k (rowS f r2) with
              | none => rfl
              | some b =>
                have hb : b.2.length < r2.length := by
                  unfold filt at h4
                  cases h3 : rowS f r2 with
                  | none => rw [h3] at h4; cases h4
                  | some b' =>
                    rw [h3] at h4
                    have h4 : (if b'.1.depth ≤ k then some b' else none) = some b := h4
                    split at h4
                    · have := Option.some.inj h4
                      subst this
                      exact rowS_len (b := b'.1) h3
                    · cases h4
                show (pcsP (k + 1) n b.2).map (fun r => ((Pc.when u.toNat v b.1).cons r.1, r.2)) = _
                rw [rp_pcs f n (k + 1) b.2 (by simp at hy; omega)]
                rfl
    · have e : rdPc (below k) (z :: y) = none := by
        unfold rdPc takeZ
        simp only [if_neg hz, Option.bind_none]
      rw [e, rp_other f n z y hz]
      rfl
end My
namespace My
open VamacBase

/-! ### a program read whole -/
theorem rd_okDeed {x r : List Int} {d : Deed} (h : readDeed x = some (d, r)) : okDeed d = true := by
  have fld : ∀ {n : Nat} {y s : List Int}, readField y = some (n, s) → okField n = true := fun {n y s} hf => by
    have h2 : n ≤ 2 := (readNat_lt (x := y) (r := s) (n := n) hf).2.2
    exact decide_eq_true (show n < 3 by omega)
  have pr : ∀ {u : Nat × Int} {y s : List Int}, readPair readField readValue y = some (u, s) → okField u.1 = true ∧ okValue u.2 = true := fun {u y s} hp => by
    unfold readPair at hp
    cases h1 : readField y with
    | none => rw [h1] at hp; cases hp
    | some a =>
      rw [h1] at hp
      have hp : ((readValue a.2).map fun v => ((a.1, v.1), v.2)) = some (u, s) := hp
      cases h2 : readValue a.2 with
      | none => rw [h2] at hp; cases hp
      | some b =>
        rw [h2] at hp
        obtain ⟨rfl, _⟩ := Prod.mk.inj (Option.some.inj hp)
        exact ⟨fld (s := a.2) h1, (readValue_lt (x := a.2) (r := b.2) (v := b.1) h2).2⟩
  have two : ∀ {mk : Nat → Int → Deed} {y : List Int}, (∀ n v, okDeed (mk n v) = (okField n && okValue v)) → ((readPair readField readValue y).map fun u => (mk u.1.1 u.1.2, u.2)) = some (d, r) → okDeed d = true := fun {mk y} hm h => by
    cases h1 : readPair readField readValue y with
    | none => rw [h1] at h; cases h
    | some u =>
      rw [h1] at h
      obtain ⟨rfl, _⟩ := Prod.mk.inj (Option.some.inj h)
      obtain ⟨a, b⟩ := pr (u := u.1) (s := u.2) h1
      rw [hm, a, b]
      rfl
  have one : ∀ {mk : Nat → Deed} {y : List Int}, (∀ n, okDeed (mk n) = okField n) → ((readField y).map fun u => (mk u.1, u.2)) = some (d, r) → okDeed d = true := fun {mk y} hm h => by
    cases h1 : readField y with
    | none => rw [h1] at h; cases h
    | some u =>
      rw [h1] at h
      obtain ⟨rfl, _⟩ := Prod.mk.inj (Option.some.inj h)
      rw [hm]
      exact fld (s := u.2) h1
  unfold readDeed at h
  split at h
  · obtain ⟨rfl, _⟩ := Prod.mk.inj (Option.some.inj h); rfl
  · obtain ⟨rfl, _⟩ := Prod.mk.inj (Option.some.inj h); rfl
  · obtain ⟨rfl, _⟩ := Prod.mk.inj (Option.some.inj h); rfl
  · exact two (mk := Deed.write) (fun _ _ => rfl) h
  · exact two (mk := Deed.add) (fun _ _ => rfl) h
  · exact one (mk := Deed.copy) (fun _ => rfl) h
  · exact one (mk := Deed.paste) (fun _ => rfl) h
  · obtain ⟨rfl, _⟩ := Prod.mk.inj (Option.some.inj h); rfl
  · obtain ⟨rfl, _⟩ := Prod.mk.inj (Option.some.inj h); rfl
  · exact two (mk := Deed.find) (fun _ _ => rfl) h
  · cases h
/-- what is read is within the limits, but for size and depth -/
def PcOk : Pc → Prop
  | .deed d s => okDeed d = true ∧ okValue s = true ∧ (hasNumber d = true ∨ s = 0)
  | .times n b => 1 ≤ n ∧ n ≤ 9 ∧ okPieces b = true
  | .toEnd b => okPieces b = true
  | .when f v b => okField f = true ∧ okValue v = true ∧ okPieces b = true
theorem ofPcs_ok : ∀ (l : List Pc), (∀ c ∈ l, PcOk c) → okPieces (ofPcs l) = true
  | [], _ => rfl
  | c :: l, h => by
    have ih := ofPcs_ok l fun x hx => h x (List.mem_cons_of_mem _ hx)
    have hc := h c (by simp)
    show okPieces (c.cons (ofPcs l)) = true
    cases c with
    | deed d s =>
      obtain ⟨a, b, e⟩ := hc
      show (okDeed d && (okValue s && ((hasNumber d || s == 0) && okPieces (ofPcs l)))) = true
      rw [a, b, ih]
      rcases e with e | e <;> simp [e]
    | times n b =>
      obtain ⟨a, e, f⟩ := hc
      show (decide (1 ≤ n) && (decide (n ≤ 9) && (okPieces b && okPieces (ofPcs l)))) = true
      rw [decide_eq_true a, decide_eq_true e, f, ih]
      rfl
    | toEnd b =>
      have hc : okPieces b = true := hc
      show (okPieces b && okPieces (ofPcs l)) = true
      rw [hc, ih]
      rfl
    | «when» f v b =>
      obtain ⟨a, e, g⟩ := hc
      show (okField f && (okValue v && (okPieces b && okPieces (ofPcs l)))) = true
      rw [a, e, g, ih]
      rfl
theorem takeZ_val {z : Int} {x r : List Int} (h : takeZ (-999) 999 x = some (z, r)) : okValue z = true := by
  obtain ⟨_, a, b⟩ := takeZ_some h
  exact (okValue_iff z).mpr (by omega)
theorem rdPc_ok {row : Option (Reader Prog)} (hr : ∀ rd, row = some rd → ∀ y b s, rd y = some (b, s) → okPieces b = true) {x r : List Int} {c : Pc} (h : rdPc row x = some (c, r)) : PcOk c := by
  unfold rdPc at h
  cases h1 : takeZ 0 3 x with
  | none => rw [h1] at h; cases h
  | some w =>
    obtain ⟨w, x1⟩ := w
    obtain ⟨_, w0, w3⟩ := takeZ_some h1
    rw [h1] at h
    simp only [Option.bind_some] at h
    by_cases hw : w = 0
    · rw [if_pos hw] at h
      cases h2 : readDeed x1 with
      | none => rw [h2] at h; cases h
      | some d =>
        have od := rd_okDeed (x := x1) (r := d.2) (d := d.1) h2
        rw [h2] at h
        simp only [Option.bind_some] at h
        cases hn : hasNumber d.1 with
        | true =>
          rw [hn, if_pos rfl] at h
          cases h3 : takeZ (-999) 999 d.2 with
          | none => rw [h3] at h; cases h
          | some s =>
            rw [h3] at h
            obtain ⟨rfl, _⟩ := Prod.mk.inj (Option.some.inj h)
            exact ⟨od, takeZ_val (z := s.1) (r := s.2) h3, Or.inl hn⟩
        | false =>
          rw [hn, if_neg (by decide)] at h
          obtain ⟨rfl, _⟩ := Prod.mk.inj (Option.some.inj h)
          exact ⟨od, rfl, Or.inr rfl⟩
    · rw [if_neg hw] at h
      cases row with
      | none => cases h
      | some rd =>
        have hrd := hr rd rfl
        simp only at h
        by_cases hw1 : w = 1
        · rw [if_pos hw1] at h
          cases h2 : takeZ 1 9 x1 with
          | none => rw [h2] at h; cases h
          | some n =>
            obtain ⟨n, x2⟩ := n
            obtain ⟨_, n1, n9⟩ := takeZ_some h2
            rw [h2] at h
            simp only [Option.bind_some] at h
            cases h3 : rd x2 with
            | none => rw [h3] at h; cases h
            | some b =>
              rw [h3] at h
              obtain ⟨rfl, _⟩ := Prod.mk.inj (Option.some.inj h)
              exact ⟨by omega, by omega, hrd x2 b.1 b.2 h3⟩
        · rw [if_neg hw1] at h
          by_cases hw2 : w = 2
          · rw [if_pos hw2] at h
            cases h3 : rd x1 with
            | none => rw [h3] at h; cases h
            | some b =>
              rw [h3] at h
              obtain ⟨rfl, _⟩ := Prod.mk.inj (Option.some.inj h)
              exact hrd x1 b.1 b.2 h3
          · rw [if_neg hw2] at h
            cases h2 : takeZ 0 2 x1 with
            | none => rw [h2] at h; cases h
            | some f =>
              obtain ⟨f, x2⟩ := f
              obtain ⟨_, f0, f2⟩ := takeZ_some h2
              rw [h2] at h
              simp only [Option.bind_some] at h
              cases h4 : takeZ (-999) 999 x2 with
              | none => rw [h4] at h; cases h
              | some v =>
                rw [h4] at h
                simp only [Option.bind_some] at h
                cases h3 : rd v.2 with
                | none => rw [h3] at h; cases h
                | some b =>
                  rw [h3] at h
                  obtain ⟨rfl, _⟩ := Prod.mk.inj (Option.some.inj h)
                  exact ⟨decide_eq_true (show f.toNat < 3 by omega), takeZ_val (z := v.1) (r := v.2) h4, hrd v.2 b.1 b.2 h3⟩
theorem pcsP_ok {k n : Nat} {x r : List Int} {p : Prog} (hr : ∀ rd, below k = some rd → ∀ y b s, rd y = some (b, s) → okPieces b = true) (h : pcsP k n x = some (p, r)) : okPieces p = true := by
  unfold pcsP at h
  cases h1 : readTimes (rdPc (below k)) n x with
  | none => rw [h1] at h; cases h
  | some u =>
    obtain ⟨u, s⟩ := u
    rw [h1] at h
    obtain ⟨rfl, _⟩ := Prod.mk.inj (Option.some.inj h)
    exact ofPcs_ok u (readTimes_all (P := PcOk) (fun x c r hc => rdPc_ok hr hc) h1)
theorem below_ok : ∀ (k : Nat) (rd : Reader Prog), below k = some rd → ∀ y b s, rd y = some (b, s) → okPieces b = true
  | 0, rd, h => by cases h
  | k + 1, rd, h => by
    have e : rdRowW (below k) = rd := Option.some.inj h
    intro y b s hb
    rw [← e] at hb
    unfold rdRowW at hb
    cases h1 : takeZ 0 16 y with
    | none => rw [h1] at hb; cases hb
    | some u =>
      rw [h1] at hb
      exact pcsP_ok (k := k) (below_ok k) hb
theorem rdRow_ok {k : Nat} {y s : List Int} {b : Prog} (h : rdRow k y = some (b, s)) : okPieces b = true := below_ok (k + 1) (rdRow k) rfl y b s h
theorem rdRow_filt (k : Nat) (x : List Int) : rdRow k x = filt k ((readNat 0 PIECES x).bind fun n => readPieces (x.length + 1) n.1 n.2) := by
  unfold rdRow rdRowW
  rw [readNat_take]
  show (takeZ 0 16 x).bind _ = filt k (((takeZ 0 16 x).map _).bind _)
  cases h1 : takeZ 0 16 x with
  | none => rfl
  | some u =>
    obtain ⟨u, r1⟩ := u
    obtain ⟨rfl, _⟩ := takeZ_some h1
    exact rp_pcs _ u.toNat k r1 (by simp)
theorem whole_prog (l : List Int) : whole readProg l = wholePy l := by
  unfold whole wholePy
  have e : readProg l = (rdRow 3 l).bind fun u => if u.1.size ≤ 16 then some u else none := by
    unfold readProg
    rw [rdRow_filt]
    cases h1 : readNat 0 PIECES l with
    | none => rfl
    | some n =>
      simp only [Option.bind_some]
      cases h2 : readPieces (l.length + 1) n.1 n.2 with
      | none => rfl
      | some u =>
        have hp : u.1.depth ≤ 3 → okPieces u.1 = true := fun hd => by
          refine rdRow_ok (k := 3) (y := l) (s := u.2) ?_
          rw [rdRow_filt, h1]
          simp only [Option.bind_some]
          rw [h2]
          exact if_pos hd
        show (if okProg u.1 = true then some u else none) = Option.bind (if u.1.depth ≤ 3 then some u else none) _
        unfold okProg
        by_cases hd : u.1.depth ≤ 3
        · rw [if_pos hd, hp hd]
          have hd' : decide (u.1.depth ≤ DEPTH) = true := decide_eq_true hd
          rw [hd', Bool.true_and, Bool.and_true]
          show (if decide (u.1.size ≤ PIECES) = true then some u else none) = if u.1.size ≤ 16 then some u else none
          by_cases hs : u.1.size ≤ 16
          · exact (if_pos (decide_eq_true (show u.1.size ≤ PIECES from hs))).trans (if_pos hs).symm
          · exact (if_neg fun z => hs (show u.1.size ≤ 16 from of_decide_eq_true z)).trans (if_neg hs).symm
        · rw [if_neg hd]
          have hd' : decide (u.1.depth ≤ DEPTH) = false := decide_eq_false hd
          rw [hd', Bool.and_false, Bool.and_false, if_neg (by decide)]
          rfl
  rw [e]
  cases rdRow 3 l with
  | none => rfl
  | some u =>
    obtain ⟨p, r⟩ := u
    simp only [Option.bind_some]
    cases r with
    | nil =>
      by_cases hs : p.size ≤ 16
      · rw [if_pos hs]
        exact (if_pos hs).symm
      · rw [if_neg hs]
        exact (if_neg hs).symm
    | cons a r =>
      by_cases hs : p.size ≤ 16
      · rw [if_pos hs]
      · rw [if_neg hs]
/-- how deep what is read may be -/
theorem rdRow_deep {k : Nat} {y s : List Int} {b : Prog} (h : rdRow k y = some (b, s)) : b.depth ≤ k := by
  rw [rdRow_filt] at h
  unfold filt at h
  cases h1 : (readNat 0 PIECES y).bind fun n => readPieces (y.length + 1) n.1 n.2 with
  | none => rw [h1] at h; cases h
  | some u =>
    rw [h1] at h
    have h : (if u.1.depth ≤ k then some u else none) = some (b, s) := h
    split at h
    · have := Option.some.inj h
      subst this
      assumption
    · cases h

/-! ### a table read whole -/
/-- whole_table -/
def rdTable : Reader Table := fun x => (takeZ 0 8 x).bind fun n => (readTimes (readTimes (takeZ (-999) 999) 3) n.1.toNat n.2).bind fun rows =>
  (takeZ 0 n.1 rows.2).bind fun c => (takeZ (-999) 999 c.2).map fun v => (⟨rows.1, c.1.toNat, v.1⟩, v.2)
theorem readTimes_congr {A : Type} {a b : Reader A} (h : ∀ x, a x = b x) : ∀ (n : Nat) (x : List Int), readTimes a n x = readTimes b n x
  | 0, _ => rfl
  | n + 1, x => by
    show ((a x).bind fun u => (readTimes a n u.2).map fun v => (u.1 :: v.1, v.2)) = (b x).bind fun u => (readTimes b n u.2).map fun v => (u.1 :: v.1, v.2)
    rw [h]
    congr 1
    funext u
    rw [readTimes_congr h n u.2]
theorem table_ok {n : Nat} {x r : List Int} {rows : List (List Int)} (h : readTimes (readTimes (takeZ (-999) 999) 3) n x = some (rows, r)) : rows.length = n ∧ (rows.all fun r => r.length == FIELDS && r.all okValue) = true := by
  refine ⟨readTimes_length h, ?_⟩
  rw [List.all_eq_true]
  refine readTimes_all (P := fun (u : List Int) => (u.length == FIELDS && u.all okValue) = true) (fun x u r hu => ?_) h
  have h1 := readTimes_length hu
  have h2 := readTimes_all (P := fun z => okValue z = true) (fun x z r hz => takeZ_val hz) hu
  rw [Bool.and_eq_true, beq_iff_eq, List.all_eq_true]
  exact ⟨h1, h2⟩
theorem whole_table (l : List Int) : whole readTable l = whole rdTable l := by
  have e : ∀ x, readTable x = rdTable x := by
    intro x
    unfold readTable rdTable
    show ((((readNat 0 ROWS x).bind fun n => readTimes (readTimes readValue FIELDS) n.1 n.2).bind fun u => ((((readNat 0 ROWS u.2).bind fun c => (readValue c.2).map fun v => ((c.1, v.1), v.2))).map fun v => ((u.1, v.1), v.2))).bind fun u => if okTable ⟨u.1.1, u.1.2.1, u.1.2.2⟩ = true then some ((⟨u.1.1, u.1.2.1, u.1.2.2⟩ : Table), u.2) else none) = _
    rw [readNat_take]
    show (((((takeZ 0 8 x).map _).bind _).bind _).bind _) = _
    cases h1 : takeZ 0 8 x with
    | none => rfl
    | some n =>
      obtain ⟨n, x1⟩ := n
      obtain ⟨_, n0, n8⟩ := takeZ_some h1
      simp only [Option.map_some, Option.bind_some]
      have e1 : readTimes (readTimes readValue FIELDS) n.toNat x1 = readTimes (readTimes (takeZ (-999) 999) 3) n.toNat x1 := readTimes_congr (fun y => readTimes_congr readValue_take 3 y) _ _
      rw [e1]
      cases h2 : readTimes (readTimes (takeZ (-999) 999) 3) n.toNat x1 with
      | none => rfl
      | some rows =>
        obtain ⟨rows, x2⟩ := rows
        obtain ⟨hl, ha⟩ := table_ok h2
        simp only [Option.bind_some]
        rw [readNat_take]
        show Option.bind (Option.map _ (((takeZ 0 8 x2).map _).bind _)) _ = _
        cases h3 : takeZ 0 8 x2 with
        | none =>
          have : takeZ 0 n x2 = none := by
            cases x2 with
            | nil => rfl
            | cons z r =>
              unfold takeZ at h3 ⊢
              simp only at h3 ⊢
              split at h3
              · cases h3
              · rename_i hc
                rw [if_neg]
                omega
          rw [this]
          rfl
        | some c =>
          obtain ⟨c, x3⟩ := c
          obtain ⟨rfl, c0, c8⟩ := takeZ_some h3
          simp only [Option.map_some, Option.bind_some]
          rw [readValue_take]
          have hc : takeZ 0 n (c :: x3) = if c ≤ n then some (c, x3) else none := by
            show (if 0 ≤ c ∧ c ≤ n then some (c, x3) else none) = _
            by_cases hh : c ≤ n
            · rw [if_pos hh, if_pos ⟨c0, hh⟩]
            · rw [if_neg hh, if_neg fun z => hh z.2]
          rw [hc]
          cases h4 : takeZ (-999) 999 x3 with
          | none =>
            simp only [Option.map_none, Option.bind_none]
            split <;> simp [h4]
          | some v =>
            obtain ⟨v, x4⟩ := v
            have hv := takeZ_val h4
            simp only [Option.map_some, Option.bind_some]
            have eo : okTable ⟨rows, c.toNat, v⟩ = decide (c ≤ n) := by
              show (decide (rows.length ≤ 8) && (rows.all (fun r => r.length == FIELDS && r.all okValue) && (decide (c.toNat ≤ rows.length) && okValue v))) = _
              rw [ha, hv, decide_eq_true (show rows.length ≤ 8 by omega)]
              simp only [Bool.true_and, Bool.and_true]
              rw [decide_eq_decide]
              omega
            rw [eo]
            by_cases hh : c ≤ n
            · rw [if_pos (decide_eq_true hh), if_pos hh]
              simp only [Option.bind_some, h4, Option.map_some]
            · rw [if_neg (fun z => hh (of_decide_eq_true z)), if_neg hh]
              rfl
  unfold whole
  rw [e]
theorem rdTable_ok {x r : List Int} {t : Table} (h : rdTable x = some (t, r)) : okTable t = true := by
  unfold rdTable at h
  cases h1 : takeZ 0 8 x with
  | none => rw [h1] at h; cases h
  | some n =>
    obtain ⟨n, x1⟩ := n
    obtain ⟨_, n0, n8⟩ := takeZ_some h1
    rw [h1] at h
    simp only [Option.bind_some] at h
    cases h2 : readTimes (readTimes (takeZ (-999) 999) 3) n.toNat x1 with
    | none => rw [h2] at h; cases h
    | some rows =>
      obtain ⟨rows, x2⟩ := rows
      obtain ⟨hl, ha⟩ := table_ok h2
      rw [h2] at h
      simp only [Option.bind_some] at h
      cases h3 : takeZ 0 n x2 with
      | none => rw [h3] at h; cases h
      | some c =>
        obtain ⟨c, x3⟩ := c
        obtain ⟨_, c0, c8⟩ := takeZ_some h3
        rw [h3] at h
        simp only [Option.bind_some] at h
        cases h4 : takeZ (-999) 999 x3 with
        | none => rw [h4] at h; cases h
        | some v =>
          obtain ⟨v, x4⟩ := v
          have hv := takeZ_val h4
          rw [h4] at h
          obtain ⟨rfl, _⟩ := Prod.mk.inj (Option.some.inj h)
          show (decide (rows.length ≤ 8) && (rows.all (fun r => r.length == FIELDS && r.all okValue) && (decide (c.toNat ≤ rows.length) && okValue v))) = true
          rw [ha, hv, decide_eq_true (show rows.length ≤ 8 by omega), decide_eq_true (show c.toNat ≤ rows.length by omega)]
          rfl
end My
namespace My
open VamacBase

/-! ### a program run is its deeds done -/
theorem rounds_eq {body : Nat → Run → Run} {ub : Nat → List Deed} (h : ∀ i x, body i x = (ub i).foldl doDeed x) : ∀ (n i : Nat) (x : Run), rounds body n i x = (Vamacb.unrollRounds ub n i).foldl doDeed x
  | 0, _, _ => rfl
  | n + 1, i, x => by
    show rounds body n (i + 1) (body i x) = (ub i ++ Vamacb.unrollRounds ub n (i + 1)).foldl doDeed x
    rw [rounds_eq h n (i + 1), h, List.foldl_append]
theorem run_unroll : ∀ (p : Prog), Vamacb.isCounted p = true → ∀ (i : Nat) (x : Run), runFrom p i x = (Vamacb.unrollFrom p i).foldl doDeed x
  | .done, _, _, _ => rfl
  | .deed d s r, h, i, x => run_unroll r h i _
  | .times n b r, h, i, x => by
    have h : (Vamacb.isCounted b && Vamacb.isCounted r) = true := h
    rw [Bool.and_eq_true] at h
    show runFrom r i (rounds (runFrom b) n 0 x) = (Vamacb.unrollRounds (Vamacb.unrollFrom b) n 0 ++ Vamacb.unrollFrom r i).foldl doDeed x
    rw [run_unroll r h.2, rounds_eq (run_unroll b h.1), List.foldl_append]
  | .toEnd _ _, h, _, _ => by cases h
  | .when _ _ _ _, h, _, _ => by cases h
theorem rounds_len {ub : Nat → List Deed} {m : Nat} (h : ∀ i, (ub i).length = m) : ∀ (n i : Nat), (Vamacb.unrollRounds ub n i).length = n * m
  | 0, _ => by simp [Vamacb.unrollRounds]
  | n + 1, i => by
    show (ub i ++ Vamacb.unrollRounds ub n (i + 1)).length = _
    rw [List.length_append, h, rounds_len h n, Nat.add_mul, Nat.one_mul, Nat.add_comm]
theorem unroll_len : ∀ (p : Prog), Vamacb.isCounted p = true → ∀ i, (Vamacb.unrollFrom p i).length = Vamacb.lengthOf p
  | .done, _, _ => rfl
  | .deed d s r, h, i => by
    show (Vamacb.unrollFrom r i).length + 1 = Vamacb.lengthOf r + 1
    rw [unroll_len r h]
  | .times n b r, h, i => by
    have h : (Vamacb.isCounted b && Vamacb.isCounted r) = true := h
    rw [Bool.and_eq_true] at h
    show (Vamacb.unrollRounds (Vamacb.unrollFrom b) n 0 ++ Vamacb.unrollFrom r i).length = n * Vamacb.lengthOf b + Vamacb.lengthOf r
    rw [List.length_append, unroll_len r h.2, rounds_len (unroll_len b h.1)]
  | .toEnd _ _, h, _ => by cases h
  | .when _ _ _ _, h, _ => by cases h
theorem okF_with (v : Int) (d : Deed) : okF (withNumber v d) = okF d := by unfold okF; rw [fld_with]
theorem rounds_okF {ub : Nat → List Deed} (h : ∀ i, (ub i).all okF = true) : ∀ (n i : Nat), (Vamacb.unrollRounds ub n i).all okF = true
  | 0, _ => rfl
  | n + 1, i => by
    show (ub i ++ Vamacb.unrollRounds ub n (i + 1)).all okF = true
    rw [List.all_append, h, rounds_okF h n]
    rfl
theorem unroll_okF : ∀ (p : Prog), progF p = true → ∀ i, (Vamacb.unrollFrom p i).all okF = true
  | .done, _, _ => rfl
  | .deed d s r, h, i => by
    have h : (okF d && progF r) = true := h
    rw [Bool.and_eq_true] at h
    show (okF (withNumber _ d) && (Vamacb.unrollFrom r i).all okF) = true
    rw [okF_with, h.1, unroll_okF r h.2]
    rfl
  | .times n b r, h, i => by
    have h : (progF b && progF r) = true := h
    rw [Bool.and_eq_true] at h
    show (Vamacb.unrollRounds (Vamacb.unrollFrom b) n 0 ++ Vamacb.unrollFrom r i).all okF = true
    rw [List.all_append, unroll_okF r h.2, rounds_okF (unroll_okF b h.1)]
    rfl
  | .toEnd b r, h, i => by
    have h : (progF b && progF r) = true := h
    rw [Bool.and_eq_true] at h
    exact unroll_okF r h.2 i
  | .when _ _ b r, h, i => by
    have h : (progF b && progF r) = true := h
    rw [Bool.and_eq_true] at h
    exact unroll_okF r h.2 i

/-! ### deeds done on a table -/
/-- run_on: how it ended, how many were done, the table then -/
def runPy : Table → List Deed → Nat → Int × Nat × Table
  | t, [], n => (0, n, t)
  | t, d :: r, n => match doneBy t d with
    | .error f => (faultNumber f, n, t)
    | .ok t' => runPy t' r (n + 1)
theorem bad_stays {x : Run} (h : x.bad.isSome = true) : ∀ ds : List Deed, ds.foldl doDeed x = x
  | [] => rfl
  | d :: r => by
    have e : doDeed x d = x := by
      unfold doDeed
      rw [if_pos h]
    rw [List.foldl_cons, e]
    exact bad_stays h r
theorem run_py : ∀ (ds : List Deed) (t : Table) (tr : List Deed), tr.length + ds.length ≤ 60 →
    (badNumber (ds.foldl doDeed ⟨t, tr, none⟩).bad, (ds.foldl doDeed ⟨t, tr, none⟩).trace.length, (ds.foldl doDeed ⟨t, tr, none⟩).table) = runPy t ds tr.length
  | [], _, _, _ => rfl
  | d :: r, t, tr, h => by
    rw [List.length_cons] at h
    have e : doDeed ⟨t, tr, none⟩ d = match doneBy t d with
        | .error f => ⟨t, tr, some (.fault f)⟩
        | .ok t' => ⟨t', tr ++ [d], none⟩ := by
      unfold doDeed
      rw [if_neg (show ¬ ((none : Option Bad).isSome = true) by decide), if_neg (show ¬ DEEDS ≤ tr.length by show ¬ 60 ≤ tr.length; omega)]
      cases doneBy t d <;> rfl
    rw [List.foldl_cons, e]
    unfold runPy
    cases doneBy t d with
    | error f =>
      rw [bad_stays rfl]
      rfl
    | ok t' =>
      have := run_py r t' (tr ++ [d]) (by rw [List.length_append, List.length_singleton]; omega)
      rw [List.length_append, List.length_singleton] at this
      exact this
theorem play_eq {p : Prog} {t : Table} (hp : Vamacb.isCounted p = true) (hl : Vamacb.lengthOf p ≤ 60) :
    (badNumber (run p t).bad :: int (run p t).trace.length :: flatTable (run p t).table) = (runPy t (Vamacb.unroll p) 0).1 :: ((runPy t (Vamacb.unroll p) 0).2.1 : Int) :: flatTable (runPy t (Vamacb.unroll p) 0).2.2 := by
  have e : run p t = (Vamacb.unroll p).foldl doDeed ⟨t, [], none⟩ := run_unroll p hp 0 (begin_ t)
  have h := run_py (Vamacb.unroll p) t [] (by
    have := unroll_len p hp 0
    show 0 + (Vamacb.unrollFrom p 0).length ≤ 60
    omega)
  rw [e]
  have h1 : badNumber ((Vamacb.unroll p).foldl doDeed ⟨t, [], none⟩).bad = (runPy t (Vamacb.unroll p) 0).1 := congrArg Prod.fst h
  have h2 := congrArg Prod.snd h
  have h3 : ((Vamacb.unroll p).foldl doDeed ⟨t, [], none⟩).trace.length = (runPy t (Vamacb.unroll p) 0).2.1 := congrArg Prod.fst h2
  have h4 : ((Vamacb.unroll p).foldl doDeed ⟨t, [], none⟩).table = (runPy t (Vamacb.unroll p) 0).2.2 := congrArg Prod.snd h2
  rw [h1, h3, h4]
  rfl
/-- what the program needs of a table -/
structure TabOk (t : Table) : Prop where
  rows : t.rows.length ≤ 8
  wide : ∀ r ∈ t.rows, r.length = 3
  at_ : t.at_ ≤ t.rows.length
theorem tabOk_of {t : Table} (h : okTable t = true) : TabOk t := by
  have h : (decide (t.rows.length ≤ 8) && (t.rows.all (fun r => r.length == FIELDS && r.all okValue) && (decide (t.at_ ≤ t.rows.length) && okValue t.clip))) = true := h
  rw [Bool.and_eq_true, Bool.and_eq_true, Bool.and_eq_true, decide_eq_true_eq, decide_eq_true_eq, List.all_eq_true] at h
  refine ⟨h.1, fun r hr => ?_, h.2.2.1⟩
  have := h.2.1 r hr
  rw [Bool.and_eq_true, beq_iff_eq] at this
  exact this.1
theorem tabOk_set {t : Table} {f : Nat} {v : Int} (h : TabOk t) : TabOk (setHere t f v) := by
  unfold setHere
  cases e : t.rows[t.at_]? with
  | none => exact ⟨h.rows, h.wide, h.at_⟩
  | some r =>
    refine ⟨by simp only [List.length_set]; exact h.rows, fun x hx => ?_, by simp only [List.length_set]; exact h.at_⟩
    rcases List.mem_or_eq_of_mem_set hx with hx | rfl
    · exact h.wide x hx
    · rw [List.length_set]
      exact h.wide r (List.mem_of_getElem? e)
theorem tabOk_written {t t' : Table} {f : Nat} {v : Int} (h : TabOk t) (e : written t f v = .ok t') : TabOk t' := by
  unfold written at e
  split at e
  · cases e
  · split at e
    · cases e
      exact tabOk_set h
    · cases e
theorem tabOk_done {t t' : Table} {d : Deed} (h : TabOk t) (e : doneBy t d = .ok t') : TabOk t' := by
  cases d with
  | down =>
    have e : (if isEnd t = true then Except.error Fault.norow else .ok { t with at_ := t.at_ + 1 }) = .ok t' := e
    split at e
    · cases e
    · rename_i hc
      cases e
      have : ¬ t.rows.length ≤ t.at_ := fun z => hc (decide_eq_true z)
      exact ⟨h.rows, h.wide, by show t.at_ + 1 ≤ t.rows.length; omega⟩
  | up =>
    have e : (if t.at_ = 0 then Except.error Fault.first else .ok { t with at_ := t.at_ - 1 }) = .ok t' := e
    split at e
    · cases e
    · cases e
      have := h.at_
      exact ⟨h.rows, h.wide, by show t.at_ - 1 ≤ t.rows.length; omega⟩
  | top =>
    cases e
    exact ⟨h.rows, h.wide, Nat.zero_le _⟩
  | write f v => exact tabOk_written h e
  | add f v => exact tabOk_written h e
  | copy f =>
    have e : (match here t f with
      | none => Except.error Fault.norow
      | some v => .ok { t with clip := v }) = .ok t' := e
    split at e
    · cases e
    · cases e
      exact ⟨h.rows, h.wide, h.at_⟩
  | paste f => exact tabOk_written h e
  | delete =>
    have e : (if isEnd t = true then Except.error Fault.norow else .ok { t with rows := t.rows.eraseIdx t.at_ }) = .ok t' := e
    split at e
    · cases e
    · rename_i hc
      cases e
      have hc : ¬ t.rows.length ≤ t.at_ := fun z => hc (decide_eq_true z)
      have hl : (t.rows.eraseIdx t.at_).length = t.rows.length - 1 := List.length_eraseIdx_of_lt (by omega)
      have := h.rows
      exact ⟨by show (t.rows.eraseIdx t.at_).length ≤ 8; omega, fun r hr => h.wide r (List.mem_of_mem_eraseIdx hr), by show t.at_ ≤ (t.rows.eraseIdx t.at_).length; omega⟩
  | double =>
    have e : (if isEnd t = true then Except.error Fault.norow else if ROWS ≤ t.rows.length then .error .full else .ok { t with rows := t.rows.take (t.at_ + 1) ++ t.rows.drop t.at_ }) = .ok t' := e
    split at e
    · cases e
    · rename_i hc
      split at e
      · cases e
      · rename_i hf
        cases e
        have hc : ¬ t.rows.length ≤ t.at_ := fun z => hc (decide_eq_true z)
        have hf : ¬ 8 ≤ t.rows.length := hf
        have hl : (t.rows.take (t.at_ + 1) ++ t.rows.drop t.at_).length = t.rows.length + 1 := by
          rw [List.length_append, List.length_take, List.length_drop]
          omega
        refine ⟨by show (t.rows.take (t.at_ + 1) ++ t.rows.drop t.at_).length ≤ 8; omega, fun r hr => ?_, by show t.at_ ≤ (t.rows.take (t.at_ + 1) ++ t.rows.drop t.at_).length; omega⟩
        rcases List.mem_append.mp hr with hr | hr
        · exact h.wide r (List.mem_of_mem_take hr)
        · exact h.wide r (List.mem_of_mem_drop hr)
  | find f v =>
    have e : (match (List.range t.rows.length).find? fun i => decide (t.at_ < i) && ((t.rows[i]?).any fun r => r[f]? == some v) with
      | none => Except.error Fault.missing
      | some i => .ok { t with at_ := i }) = .ok t' := e
    split at e
    · cases e
    · rename_i i hi
      cases e
      have := List.mem_range.mp (List.mem_of_find?_eq_some hi)
      exact ⟨h.rows, h.wide, by show i ≤ t.rows.length; omega⟩

/-! ### where two rows aren't the same -/
theorem other_at {a b : List Deed} {i : Nat} (h : ∀ j, j < i → a[j]? = b[j]?) (hi : a[i]? ≠ b[i]?) : Vamacb.firstOther a b = some i := by
  unfold Vamacb.firstOther
  have hlt : i < Nat.max a.length b.length := by
    show i < max a.length b.length
    by_cases h1 : i < a.length
    · omega
    · by_cases h2 : i < b.length
      · omega
      · exact absurd ((List.getElem?_eq_none (by omega)).trans (List.getElem?_eq_none (by omega)).symm) hi
  rw [List.find?_range_eq_some]
  refine ⟨by simpa using hi, List.mem_range.mpr hlt, fun j hj => ?_⟩
  simp [h j hj]
theorem other_none {a b : List Deed} (h : a = b) : Vamacb.firstOther a b = none := by
  subst h
  unfold Vamacb.firstOther
  rw [List.find?_eq_none]
  intro i _
  simp

/-! ### the calls of a list -/
def noList (p : Int) : Prop := p = 2 ∨ p = 3 ∨ p = 4 ∨ p = 7 ∨ p = 8 ∨ p = 10
def withList (p : Int) : Prop := p = 0 ∨ p = 1 ∨ p = 5 ∨ p = 6 ∨ p = 9
theorem shape_no {p : Int} (h : noList p) : PyVamacb.shape p = some (0, 0) := by
  rcases h with rfl | rfl | rfl | rfl | rfl | rfl <;> rfl
theorem shape_with {p : Int} (h : withList p) : PyVamacb.shape p = some (0, 1) := by
  rcases h with rfl | rfl | rfl | rfl | rfl <;> rfl
theorem shape_some {p : Int} {x : Nat × Nat} (h : PyVamacb.shape p = some x) : noList p ∨ withList p := by
  unfold noList withList
  by_cases h0 : 0 ≤ p ∧ p ≤ 10
  · omega
  · have e : PyVamacb.shape p = none := by
      unfold PyVamacb.shape
      rw [if_neg (by omega), if_neg (by omega), if_neg (by omega), if_neg (by omega), if_neg (by omega), if_neg (by omega), if_neg (by omega), if_neg (by omega), if_neg (by omega), if_neg (by omega), if_neg (by omega)]
    rw [e] at h
    cases h
/-- a list that begins with a call -/
inductive Turn : List Int → List (List Int) → List Int → Prop
  | no {p : Int} {r : List Int} : noList p → Turn (p :: r) [[p]] r
  | lst {p n : Int} {r : List Int} : withList p → 0 ≤ n → n.toNat ≤ r.length → Turn (p :: n :: r) [[p], r.take n.toNat] (r.drop n.toNat)
theorem calls_turn {f : Nat} {p : Int} {r : List Int} {cs : List (List (List Int))} (h : PyFlat.calls PyVamacb.shape f (p :: r) = some cs) :
    ∃ c t cs' f', cs = c :: cs' ∧ Turn (p :: r) c t ∧ PyFlat.calls PyVamacb.shape f' t = some cs' := by
  cases f with
  | zero => cases h
  | succ f =>
    have h : (match PyFlat.call PyVamacb.shape (p :: r) with
      | none => none
      | some (c, t) => match PyFlat.calls PyVamacb.shape f t with
        | none => none
        | some cs => some (c :: cs)) = some cs := h
    cases h1 : PyFlat.call PyVamacb.shape (p :: r) with
    | none => rw [h1] at h; cases h
    | some ct =>
      obtain ⟨c, t⟩ := ct
      rw [h1] at h
      have h : (match PyFlat.calls PyVamacb.shape f t with
        | none => none
        | some cs => some (c :: cs)) = some cs := h
      cases h2 : PyFlat.calls PyVamacb.shape f t with
      | none => rw [h2] at h; cases h
      | some cs' =>
        rw [h2] at h
        have h := Option.some.inj h
        refine ⟨c, t, cs', f, h.symm, ?_, h2⟩
        have h1 : (match PyVamacb.shape p with
          | none => none
          | some (n, k) => if r.length < n then none else match PyFlat.rows k (r.drop n) with
            | none => none
            | some (xs, t) => some ((p :: r.take n) :: xs, t)) = some (c, t) := h1
        cases h3 : PyVamacb.shape p with
        | none => rw [h3] at h1; cases h1
        | some x =>
          rcases shape_some h3 with hp | hp
          · rw [shape_no hp] at h1
            obtain ⟨rfl, rfl⟩ := Prod.mk.inj (Option.some.inj h1)
            exact .no hp
          · rw [shape_with hp] at h1
            have h1 : (match PyFlat.rows 1 r with
              | none => none
              | some (xs, t) => some ((p :: r.take 0) :: xs, t)) = some (c, t) := h1
            cases r with
            | nil => cases h1
            | cons n r =>
              have h1 : (match (match PyFlat.row (n :: r) with
                | none => none
                | some (x, s) => match PyFlat.rows 0 s with
                  | none => none
                  | some (xs, t) => some (x :: xs, t)) with
                | none => none
                | some (xs, t) => some ((p :: (n :: r).take 0) :: xs, t)) = some (c, t) := h1
              have hrow : PyFlat.row (n :: r) = if 0 ≤ n ∧ n.toNat ≤ r.length then some (r.take n.toNat, r.drop n.toNat) else none := rfl
              rw [hrow] at h1
              by_cases hn : 0 ≤ n ∧ n.toNat ≤ r.length
              · rw [if_pos hn] at h1
                obtain ⟨rfl, rfl⟩ := Prod.mk.inj (Option.some.inj h1)
                exact .lst hp hn.1 hn.2
              · rw [if_neg hn] at h1
                cases h1
theorem calls_end {f : Nat} {cs : List (List (List Int))} (h : PyFlat.calls PyVamacb.shape f [] = some cs) : cs = [] := by
  cases f <;> exact (Option.some.inj h).symm
theorem whole_same {l t : List Int} {c : List (List Int)} (h : Turn l c t) : PyVamacb.whole c = c := by
  cases h with
  | no hp => rcases hp with rfl | rfl | rfl | rfl | rfl | rfl <;> rfl
  | lst hp _ _ => rcases hp with rfl | rfl | rfl | rfl | rfl <;> rfl
/-- the answers to some calls -/
def toldFrom (s : Vamacb.State) (cs : List (List (List Int))) : List Int := PyFlat.told (PyFlat.played VamacbNeutral.step s (cs.map PyVamacb.whole))
theorem told_nil (s : Vamacb.State) : toldFrom s [] = [] := rfl
theorem told_cons (s : Vamacb.State) {l t : List Int} {c : List (List Int)} (h : Turn l c t) (cs : List (List (List Int))) :
    toldFrom s (c :: cs) = ((VamacbNeutral.step s c).2.length : Int) :: (VamacbNeutral.step s c).2 ++ toldFrom (VamacbNeutral.step s c).1 cs := by
  unfold toldFrom
  rw [List.map_cons, whole_same h]
  show ((((VamacbNeutral.step s c).2.length : Int) :: (VamacbNeutral.step s c).2) ++ PyFlat.told _) = _
  rfl
theorem asked_calls {l : List Int} (h : PyVamacb.answers_asked l = true) : ∃ cs f, PyFlat.calls PyVamacb.shape f l = some cs ∧ PyVamacb.answers l = toldFrom Vamacb.start cs ∧ (PyVamacb.answers l).length ≤ 10000000 := by
  unfold PyVamacb.answers_asked at h
  cases h1 : PyFlat.calls PyVamacb.shape l.length l with
  | none => rw [h1] at h; cases h
  | some cs =>
    rw [h1] at h
    refine ⟨cs, l.length, h1, ?_, ?_⟩
    · unfold PyVamacb.answers PyVamacb.calls toldFrom
      rw [h1]
      rfl
    · simp only [Bool.and_eq_true] at h
      exact of_decide_eq_true h.2
end My
namespace PySem
namespace LowX
open PySem.W PySem.Calls PyProof.Rows PySem.HandSPX
/-! ### the text of __init__ -/
def iA (p1 p2 : Pos) : Arguments := { posonlyargs := [], args := [{ arg := "self", annotation := none, pos := p1 }, { arg := "code", annotation := none, pos := p2 }], vararg := none, kwonlyargs := [], kw_defaults := [], kwarg := none, defaults := [] }
def iB (q1 q2 q3 q4 : Pos) : List Stmt := [.Assign [.Attribute (.Name "self" q1) "code" q2] (.Name "code" q3) q4]
def iS : Scope := { kind := .function, names := [(PySem.Str.ofString "self", .local), (PySem.Str.ofString "code", .local)], isGenerator := false, isCoroutine := false, more := [] }
/-- what the written part says of Low, at C, and of its __init__, at fI -/
structure LowTxt (K : Frag) (mg : Str → Option Value) (C fI : Addr) : Prop where
  gC : mg "Refused" = some (.ref C)
  cls : ∃ nm q N bs bm sn sub ab col dd k0 k1 k2 k3 k5, K.lookup C = some (excClassObj nm q C N bs bm true sn sub ab col dd k0 k1 k2 k3 k5 "ValueError.__new__") ∧ refsVE bm = true
  sa : findIn K (.ref C) "__setattr__" = some (some (.builtin "object.__setattr__"))
  ga : findIn K (.ref C) "__getattribute__" = some (some (.builtin "BaseException.__getattribute__"))
  gg : findIn K (.ref C) "__getattr__" = some none
  noN : findIn K (.ref C) "code" = some none
  iC : findIn K (.ref C) "__init__" = some (some (.ref fI))
  tC : typeIn K (.ref fI) = some (.type "function")
  kC : keepIn K (.ref C) = true
  exC : subIn K (.ref C) (.type "BaseException") = some true
  tyC : typeIn K (.ref C) = some (.type "type")
  hdC : hasDictIn K C = true
  te : exmOne K (.ref C) (.ref C) = some true
  fn : ∃ (oc : Value) (od : Option Addr) (doc pm : Value) (an : Option Addr) (cdv ct : Value) (osl : Array (Option Value)) (p1 p2 q1 q2 q3 q4 : Pos),
    K.lookup fI = some ⟨oc, od, .func (fnOf "__init__" "Refused.__init__" (iA p1 p2) (iB q1 q2 q3 q4) iS .none .none doc pm an cdv ct), osl⟩ ∧ codeIn K cdv "Refused.__init__" = true
theorem one_size (v : Value) : [v].length ≤ sizeLine := by
  rw [sizeLine_eq]
  exact (by decide : 1 ≤ 16777216)
theorem kept_but {K : Frag} {h h' : Heap} {x : Addr} (X : K.In h) (hx : K.lookup x = none) (k : ∀ b o, b ≠ x → h.get? b = some o → h'.get? b = some o) : K.In h' := fun a o e =>
  k a o (fun z => by rw [z, hx] at e; cases e) (X a o e)
theorem ldC {M : Model} {s : Shared} {name : Str} {scope : Scope} {L a : Addr} {cd : Value} {m : Str → Option Value} {x : Str} {pos : Pos} {v : Value} {Q : Value → Shared → Prop} {A : Around} {E : Value → Shared → Prop} (hn : s.heap.Ns L m) (hv : m x = some v) (h : Q v s)
    (hk : scope.kind = .function := by rfl) (hl : (envOfC name scope L a cd).kindOf x = some .local := by rfl) (hd : (x == ("__debug__" : Str)) = false := by decide) :
    wpAny M A (eval (.Name x pos) (envOfC name scope L a cd)) Q E s := wpAny_Name (wpAny_loadName_local hk hl hn hv h) hd
/-- what __init__ leaves of a fresh exception at x -/
structure InitEnd (h h' : Heap) (x C dx t1 : Addr) (v : Value) : Prop where
  keep : ∀ b o, b ≠ x → h.get? b = some o → h'.get? b = some o
  obj : h'.get? x = some { cls := .ref C, dict := some dx, data := .fields #[.ref t1, .none, .none, .none, .bool false, .none] }
  dbig : h.objs.size ≤ dx
  dne : dx ≠ x
  ns : h'.Ns1 dx (fun y => if y = "code" then some v else none)
/-- a made Low -/
structure OwnMade (h h' : Heap) (e C d : Addr) (v : Value) : Prop where
  keep : ∀ b o, h.get? b = some o → h'.get? b = some o
  new : h.objs.size ≤ e
  obj : ∃ oe vs, h'.get? e = some oe ∧ oe.cls = .ref C ∧ oe.dict = some d ∧ oe.data = .fields vs ∧ vs[1]? = some .none
  dbig : h.objs.size ≤ d
  dne : d ≠ e
  ns : h'.Ns1 d (fun y => if y = "code" then some v else none)
section
variable {prog : Program} {w : World} {A : Around} {E : Value → Shared → Prop} {R : Result → Shared → Prop} {s : Shared} {K : Frag} {mg : Str → Option Value} {C fI : Addr}
theorem low_init (T : LowTxt K mg C fI) {x t0 : Addr} {v : Value} (X : K.In s.heap) (hlim : s.heap.NoLimit) (hx : s.heap.get? x = some (excO C t0)) (hnx : K.lookup x = none) (hroom : A.depth < recursionLimit)
    (hq : ∀ h' tk dx, InitEnd s.heap h' x C dx t0 v → R (.ok (.ret .none)) { s with heap := h', toks := tk }) :
    codeAny (model prog w) A (.call (.ref fI) ⟨[.ref x, v], []⟩) R s := by
  obtain ⟨oc, od, doc, pm, an, cdv, ct, osl, p1, p2, q1, q2, q3, q4, ho, hcd⟩ := T.fn
  obtain ⟨nm, q, N, bs, bm, sn, sub, ab, col, dd, k0, k1, k2, k3, k5, hC, hbm⟩ := T.cls
  have hcl : clsIn K C = some { name := nm, bases := bs, mro := .ref C :: bm, ns := N, qualname := q, hasDict := true, slotNames := sn, subclasses := sub, abstract := ab, collection := col, hasDel := false } := by unfold clsIn; rw [hC] <;> rfl
  refine Att.call_fn (binds := [("self", .ref x), ("code", v)]) X hlim ho hcd hroom (BindsTo.of_eq (by first | rfl | with_unfolding_all rfl)) (by first | rfl | decide | with_unfolding_all rfl) (fun s₁ IC => ?_) rfl rfl rfl
  obtain ⟨h₁, tk₁, rfl⟩ := IC.toInCall.same
  have k : ∀ b o, s.heap.get? b = some o → h₁.get? b = some o := IC.toInCall.keep
  have hn := IC.toInCall.ns
  have hxL : s.heap.objs.size ≠ x := Nat.ne_of_gt (Heap.lt_size hx)
  have X₁ : K.In h₁ := X.keeps k
  have hx₁ := k _ _ hx
  -- self.by = by
  show wpAny _ _ (execs _ _) _ _ _
  refine wpAny_execs_cons (plainObj_wpAny_Assign_Attribute ?_)
  refine ldC (v := v) hn (by first | rfl | with_unfolding_all rfl | kernel_rfl) (ldC (v := .ref x) hn (by first | rfl | with_unfolding_all rfl | kernel_rfl) ?_)
  refine set_plain X₁ (ox := excO C t0) (od := none) ⟨hx₁, rfl, rfl, trivial⟩ T.sa ?_
  refine exc_osa X₁ hx₁ hcl (show refsVE (.ref C :: bm) = true from hbm) rfl T.noN (fun h₃ tk₃ dx k₃ dn dne hx₃ hn₃ => ?_)
  show wpAny _ _ (execs _ _) _ _ _
  have z : s.heap.objs.size < h₁.objs.size := hn.lt
  exact wpAny_execs_nil (hq h₃ tk₃ dx ⟨fun b o hb e => k₃ b o hb (k b o e), hx₃, Nat.le_of_lt (Nat.lt_of_lt_of_le z dn), dne, hn₃⟩)
theorem low_made (T : LowTxt K mg C fI) {v : Value} (X : K.In s.heap) (hlim : s.heap.NoLimit) (hroom : A.depth + 1 < recursionLimit)
    (hq : ∀ h' tk e d, OwnMade s.heap h' e C d v → R (.ok (.ret (.ref e))) { s with heap := h', toks := tk }) :
    codeAny (model prog w) A (.call (.ref C) ⟨[v], []⟩) R s := by
  obtain ⟨nm, q, N, bs, bm, sn, sub, ab, col, dd, k0, k1, k2, k3, k5, hC, hbm⟩ := T.cls
  obtain ⟨hp, g, dr, tk, os⟩ := s
  have k : ∀ b o, hp.get? b = some o → ((hp.push (kdv_tup [v])).push (excO C hp.objs.size)).get? b = some o := fun b o e => Heap.get?_push_of_some _ (Heap.get?_push_of_some _ e)
  have hget : ((hp.push (kdv_tup [v])).push (excO C hp.objs.size)).get? (hp.objs.size + 1) = some (excO C hp.objs.size) := by heap_get
  have hnx : K.lookup (hp.objs.size + 1) = none := by
    cases e : K.lookup (hp.objs.size + 1) with
    | none => rfl
    | some o =>
      have z : hp.get? (hp.objs.size + 1) = some o := X _ _ e
      exact absurd (Nat.lt_of_succ_lt (Heap.lt_size z)) (Nat.lt_irrefl _)
  refine call_own F.excBase_ValueError (fun X => refsVE_contains X bm hbm) (X _ _ hC) (looks_findIn X T.iC) (fun self => bind_fn X self T.tC) (one_size v) ?_
  refine low_init (s := ⟨(hp.push (kdv_tup [v])).push (excO C hp.objs.size), g, dr, tk, os⟩) T (X.keeps k) (hlim.keeps k) hget hnx ?_ fun h' tk' dx ⟨k', hx, dn, dne, hns⟩ => ?_
  · show A.depth + 1 < recursionLimit
    exact hroom
  · have old : ∀ b o, hp.get? b = some o → h'.get? b = some o := fun b o e => k' b o (Nat.ne_of_lt (Nat.lt_succ_of_lt (Heap.lt_size e))) (k b o e)
    have z : hp.objs.size + 1 + 1 ≤ dx := by
      first
        | (simpa only [Heap.size_push] using dn)
        | exact dn
        | (have q := dn; rw [Heap.size_push, Heap.size_push] at q; exact q)
    exact ⟨rfl, hq h' tk' (hp.objs.size + 1) dx ⟨old, Nat.le_succ _, ⟨_, _, hx, rfl, rfl, rfl, rfl⟩, Nat.le_trans (Nat.le_trans (Nat.le_succ _) (Nat.le_succ _)) z, dne, hns⟩⟩
end
end LowX
end PySem
namespace L2
open PySem PySem.Spec PyProof.Rows
theorem relO_low {v : V} {v' : Value} (r : RelV v v') (f : Str) : RelO (List.lookup f [(("code" : Str), v)]) (if f = "code" then some v' else none) := by
  by_cases hw : f = "code"
  · subst hw
    rw [if_pos rfl]
    have q : List.lookup ("code" : Str) [(("code" : Str), v)] = some v := by simp [List.lookup]
    rw [q]
    exact r
  · rw [if_neg hw]
    have qw : (f == ("code" : Str)) = false := by simpa using hw
    have q2 : List.lookup f [(("code" : Str), v)] = none := by simp [List.lookup, qw]
    rw [q2]
    trivial
section
variable {X : Cx} {C fI : Addr}
/-- Low(e) -/
def tMkLow (C : Addr) (ta : TA) : St → Hp → XK → Prop := fun σ H Q => ta σ H fun vs H1 => ∃ v, vs = [v] ∧ ∀ d, H1 d = none → Q (.ref C) (some d) (upd H1 d (.xd [(("code" : Str), v)]))
theorem pmk_low {a : Expr} {ta : TA} {p pos : Pos} {k : Nat} (T : PySem.LowX.LowTxt X.K X.mg C fI) (hr : Room k X.A) (ha : PA X [a] ta) (hg : Gl X "Refused" := by rfl)
    (he : starEach (a :: []) X.env = (false, eval a X.env) :: starEach [] X.env := by rfl) (hpl : (backTo pos (starEach [] X.env)).any (·.1) = false := by rfl) :
    PMk X (.Call (.Name "Refused" p) [a] [] pos) (tMkLow C ta) := by
  intro pins s σ H Q I h
  refine wpAny_Call_Name_kw (ld_glob I hg T.gC ?_)
  refine PySem.W.callWith_K (h₀ := X.base) I.ok.mod.kin T.kC (thn (ha.run pos pins s σ H _ I h) fun us s1 hh => ?_) he hpl
  obtain ⟨vs, H1, I1, r1, v, ev, q1⟩ := hh
  subst ev
  refine ⟨I1.kIn, ?_⟩
  cases r1 with
  | cons rv rn =>
    rename_i v' us'
    cases rn
    show wpAny _ _ (call (.ref C) [v']) _ _ _
    have hlim := I1.nolimit
    obtain ⟨hp, g, dr, tk, os⟩ := s1
    refine wpAny_call (PySem.LowX.low_made T I1.kIn hlim (by have := hr.dp; omega) fun h' tk' e d M => ?_)
    show MkP X pins σ Q (.ref e) ⟨h', g, dr, tk', os⟩
    obtain ⟨oe, fv, hoe, hc, hd, hdat, h1⟩ := M.obj
    have hns := M.ns
    obtain ⟨G', g1, g2⟩ := restrict h' fun b => decide (b ≠ e)
    have gk : ∀ b, b ≠ e → G'.get? b = h'.get? b := fun b hb => g1 b (decide_eq_true hb)
    have ge : G'.get? e = none := g2 e (by simp)
    have old : ∀ b o, hp.get? b = some o → G'.get? b = some o := fun b o q => (gk b (Nat.ne_of_lt (Nat.lt_of_lt_of_le (Heap.lt_size q) M.new))).trans (M.keep b o q)
    have ob : ObjOk X.prog X.w (upd H1 d (.xd [(("code" : Str), v)])) G' d (.xd [(("code" : Str), v)]) :=
      ⟨_, hns.at (fun o q => (gk d M.dne).trans q), fun f => relO_low rv f⟩
    have J : Inv X pins σ (upd H1 d (.xd [(("code" : Str), v)])) ⟨G', g, dr, tk', os⟩ := I1.laid (t' := tk') old M.dbig ob
    refine ⟨e, oe, fv, ⟨G', g, dr, tk', os⟩, _, .ref C, some d, rfl, J, fun b o q => ?_, ge, hoe, ⟨hc, hd⟩, hdat, h1, ?_, rfl, I1.bare, raises_own T.exC T.tyC, q1 d (I1.hok.fresh M.dbig)⟩
    · by_cases hb : b = e
      · have q' : G'.get? b = some o := q
        rw [hb, ge] at q'; cases q'
      · exact (gk b hb).symm.trans q
    · rw [upd_ne (Ne.symm M.dne)]
      exact I1.hok.fresh M.new
/-- raise Low(e) -/
def tRaiseLow (C : Addr) (W : WX) (ta : TA) : TS := fun _ σ H => tMkLow C ta σ H fun cls d H' => W cls d σ H'
theorem ps_raiseLow {a : Expr} {ta : TA} {W : WX} {p pos pos2 : Pos} {k : Nat} (hc : X.calm = true) (T : PySem.LowX.LowTxt X.K X.mg C fI) (hr : Room k X.A) (tk : Takes X W) (ha : PA X [a] ta) (hg : Gl X "Refused" := by rfl)
    (he : starEach (a :: []) X.env = (false, eval a X.env) :: starEach [] X.env := by rfl) (hpl : (backTo pos (starEach [] X.env)).any (·.1) = false := by rfl) :
    PS X (.Raise (some (.Call (.Name "Refused" p) [a] [] pos)) none pos2) (tRaiseLow C W ta) := ps_raise hc tk (pmk_low T hr ha hg he hpl)
/-- low.by, low the exception that the suite holds (at a; its class cls, its dict d) -/
def tByLow (C : Addr) (a : Addr) (cls : Value) (d : Option Addr) (te : TE) : TE := fun σ H Q => te σ H fun x H1 => x = .ref a ∧ cls = .ref C ∧ ∃ (dd : Addr) (v : V), d = some dd ∧ H1 dd = some (.xd [(("code" : Str), v)]) ∧ Q v H1
theorem pe_byLow {a : Addr} {oe : Obj} {cls : Value} {d : Option Addr} {pn : List (Addr × Obj)} {e : Expr} {te : TE} {pos : Pos} (T : PySem.LowX.LowTxt X.K X.mg C fI) (hz : Zc cls d oe) (hf : ∃ vs, oe.data = .fields vs) (he : PE (X.suite a ((a, oe) :: pn)) e te)
    (hb : attributeBase e "code" X.env (eval e X.env) = eval e X.env := by rfl) :
    PE (X.suite a ((a, oe) :: pn)) (.Attribute e "code" pos) (tByLow C a cls d te) := by
  refine ⟨fun pins s σ H Q I h => ?_⟩
  refine attr_of hb (thn (he.run pins s σ H _ I h) fun u s1 hh => ?_)
  obtain ⟨x, H1, I1, rx, ex, ec, dd, v, ed, ea, q⟩ := hh
  subst ex
  obtain rfl : u = Value.ref a := rx
  subst ec
  subst ed
  obtain ⟨ha, _⟩ := I1.pin (a, oe) (List.mem_append_left _ List.mem_cons_self)
  obtain ⟨vs, hd⟩ := hf
  have hx : ObjOk X.prog X.w H1 s1.heap dd (.xd [(("code" : Str), v)]) := I1.hok dd _ ea
  obtain ⟨mA, hns, hr⟩ := hx
  obtain ⟨od, ho, hl⟩ := lookIn_ns hns
  have l : List.lookup ("code" : Str) [(("code" : Str), v)] = some v := by simp [List.lookup]
  obtain ⟨u, hu, ru⟩ := RelO.some_of (v := v) (o := mA "code") (by rw [← l]; exact hr "code")
  have J : PySem.W.InstAt s1.heap a oe C (some od) := ⟨ha, hz.1, by unfold PySem.W.notCls; rw [hd] <;> rfl, by rw [hz.2]; exact ho⟩
  exact HandSPX.exc_get I1.kIn J T.ga T.gg T.exC (PySem.W.findObj_own T.hdC T.noN rfl (by rw [hl, hu])) (handed_of ru) ⟨v, H1, I1.tok _, ru, q⟩
end
end L2

namespace L2
open PySem PySem.Spec PyProof.Rows
/-- an if whose test is known -/
theorem if_true_of {c : Bool} {A B : Prop} (hc : c = true) (h : A) : if c = true then A else B := by
  rw [if_pos hc]
  exact h
theorem if_false_of {c : Bool} {A B : Prop} (hc : c = false) (h : B) : if c = true then A else B := by
  rw [hc, if_neg Bool.false_ne_true]
  exact h
end L2
namespace My
open PySem PySem.Spec PyProof.Rows L2
/-- an error of the class at S is what «except S» names -/
theorem exm_self {K : PySem.W.Frag} {S : Addr} (h1 : PySem.W.subIn K (.ref S) (.type "BaseException") = some true) (h2 : PySem.W.isClsIn K S = true) (h3 : PySem.W.typeIn K (.ref S) = some (.type "type")) (h4 : PySem.W.subIn K (.ref S) (.ref S) = some true) :
    PySem.W.exmOne K (.ref S) (.ref S) = some true := by
  have e1 : (PySem.W.subIn K (.ref S) (.type "BaseException") == some true) = true := by rw [h1] <;> rfl
  have e2 : ((PySem.W.clsIn K S).isSome && PySem.W.typeIn K (.ref S) == some (.type "type")) = true := by
    have h2' : (PySem.W.clsIn K S).isSome = true := h2
    rw [h2', h3] <;> rfl
  show (if (PySem.W.subIn K (.ref S) (.type "BaseException") == some true) = true then (if ((PySem.W.clsIn K S).isSome && PySem.W.typeIn K (.ref S) == some (.type "type")) = true then PySem.W.subIn K (.ref S) (.ref S) else none) else none) = some true
  rw [if_pos e1, if_pos e2]
  exact h4
def top (i : Nat) : Stmt := PySem.Challenge.pw_loopsfound_s01_answers.main.body.getD i (.Pass ⟨0, 0, 0, 0⟩)
abbrev s_want : Stmt := top 17
abbrev s_Numbers_init : Stmt := inClass (top 19) 0
abbrev s_Numbers_take : Stmt := inClass (top 19) 1
abbrev s_Numbers_end : Stmt := inClass (top 19) 2
abbrev s_read_deed : Stmt := top 20
abbrev s_whole_deed : Stmt := top 21
abbrev s_whole_recording : Stmt := top 22
abbrev s_deed_told : Stmt := top 23
abbrev s_deeds_told : Stmt := top 24
abbrev s_grown : Stmt := top 25
abbrev s_step_of : Stmt := top 26
abbrev s_read_piece : Stmt := top 35
abbrev s_read_row : Stmt := top 36
abbrev s_whole_program : Stmt := top 37
abbrev s_many_pieces : Stmt := top 38
abbrev s_is_plain : Stmt := top 39
abbrev s_many_told : Stmt := top 40
abbrev s_told_by : Stmt := top 41
abbrev s_row_told : Stmt := top 42
abbrev s_Span_init : Stmt := inClass (top 45) 0
abbrev s_Span_at : Stmt := inClass (top 45) 1
abbrev s_Span_step_at : Stmt := inClass (top 45) 2
abbrev s_Span_is_same_at : Stmt := inClass (top 45) 3
abbrev s_Span_is_plain_loop : Stmt := inClass (top 45) 4
abbrev s_Span_deed_piece : Stmt := inClass (top 45) 5
abbrev s_Span_plain_piece : Stmt := inClass (top 45) 6
abbrev s_Span_inner_spans : Stmt := inClass (top 45) 7
abbrev s_Span_are_same : Stmt := inClass (top 45) 8
abbrev s_Span_long : Stmt := inClass (top 45) 9
abbrev s_Span_many_bodies : Stmt := inClass (top 45) 10
abbrev s_Span_least_body : Stmt := inClass (top 45) 11
abbrev s_spans_at : Stmt := top 46
abbrev s_with_piece : Stmt := top 47
abbrev s_lesser : Stmt := top 48
abbrev s_many_foldings : Stmt := top 49
abbrev s_least_folding : Stmt := top 50
abbrev s_plain_loops : Stmt := top 51
abbrev s_does_show : Stmt := top 53
abbrev s_tail_of : Stmt := top 54
abbrev s_does_count : Stmt := top 55
abbrev s_best_period : Stmt := top 56
abbrev s_next_deed : Stmt := top 57
abbrev s_Table_init : Stmt := inClass (top 66) 0
abbrev s_Table_told : Stmt := inClass (top 66) 1
abbrev s_Table_has_here : Stmt := inClass (top 66) 2
abbrev s_Table_put : Stmt := inClass (top 66) 3
abbrev s_Table_go_up : Stmt := inClass (top 66) 4
abbrev s_Table_double : Stmt := inClass (top 66) 5
abbrev s_Table_find : Stmt := inClass (top 66) 6
abbrev s_Table_do : Stmt := inClass (top 66) 7
abbrev s_Table_do_here : Stmt := inClass (top 66) 8
abbrev s_read_values : Stmt := top 67
abbrev s_whole_table : Stmt := top 68
abbrev s_run_on : Stmt := top 69
abbrev s_first_unlike : Stmt := top 76
abbrev s_deeds_of_program : Stmt := top 77
abbrev s_Desk_init : Stmt := inClass (top 78) 0
abbrev s_Desk_do_record : Stmt := inClass (top 78) 1
abbrev s_Desk_do_add : Stmt := inClass (top 78) 2
abbrev s_Desk_do_drop : Stmt := inClass (top 78) 3
abbrev s_Desk_do_least : Stmt := inClass (top 78) 4
abbrev s_Desk_do_is : Stmt := inClass (top 78) 5
abbrev s_Desk_do_next : Stmt := inClass (top 78) 6
abbrev s_Desk_do_loops : Stmt := inClass (top 78) 7
abbrev s_Desk_do_play : Stmt := inClass (top 78) 8
abbrev s_Desk_with_list : Stmt := inClass (top 78) 9
abbrev s_Desk_without_list : Stmt := inClass (top 78) 10
abbrev s_Desk_answer : Stmt := inClass (top 78) 11
abbrev s_answers : Stmt := top 81
/-- a def of the text: where it stands -/
structure DefI (K : PySem.W.Frag) (mg : Str → Option Value) (x : Str) (st : Stmt) (ps : List Str) where
  f : Addr
  fd : FuncData
  g : mg x = some (.ref f)
  k : PySem.W.keepIn K (.ref f) = true
  F : Fun K x x st f fd
  b : Binds K fd ps []
/-- a method -/
structure MethI (K : PySem.W.Frag) (C : Addr) (x q : Str) (st : Stmt) (ps : List Str) where
  f : Addr
  fd : FuncData
  m : Meth K C x f
  F : Fun K x q st f fd
  b : Binds K fd ps []
/-- a class -/
structure ClsI (K : PySem.W.Frag) (mg : Str → Option Value) (x : Str) where
  C : Addr
  g : mg x = some (.ref C)
  cl : Cls K C
  makes : PySem.W.makesIn K C = true
  kp : PySem.W.keepIn K (.ref C) = true
/-- a tuple of ints at the top -/
structure TupI (K : PySem.W.Frag) (mg : Str → Option Value) (x : Str) (xs : List Int) where
  a : Addr
  g : mg x = some (.ref a)
  t : ∀ H : Hp, SqT K H a (xs.map V.int)
structure Txt (K : PySem.W.Frag) (mg : Str → Option Value) where
  Ref : Addr
  fRef : Addr
  low : PySem.LowX.LowTxt K mg Ref fRef
  Numbers : ClsI K mg "Numbers"
  n_Numbers_some : NoAttr K Numbers.C "some"
  n_Numbers_done : NoAttr K Numbers.C "done"
  Span : ClsI K mg "Span"
  n_Span_recording : NoAttr K Span.C "recording"
  n_Span_place : NoAttr K Span.C "place"
  n_Span_length : NoAttr K Span.C "length"
  n_Span_rounds : NoAttr K Span.C "rounds"
  Table : ClsI K mg "Table"
  n_Table_rows : NoAttr K Table.C "rows"
  n_Table_cursor : NoAttr K Table.C "cursor"
  n_Table_clip : NoAttr K Table.C "clip"
  Desk : ClsI K mg "Desk"
  n_Desk_deeds : NoAttr K Desk.C "deeds"
  want : DefI K mg "want" s_want ["truth", "code"]
  Numbers_init : MethI K Numbers.C "__init__" "Numbers.__init__" s_Numbers_init ["self", "some"]
  Numbers_take : MethI K Numbers.C "take" "Numbers.take" s_Numbers_take ["self", "least", "most"]
  Numbers_end : MethI K Numbers.C "end" "Numbers.end" s_Numbers_end ["self"]
  read_deed : DefI K mg "read_deed" s_read_deed ["numbers"]
  whole_deed : DefI K mg "whole_deed" s_whole_deed ["some"]
  whole_recording : DefI K mg "whole_recording" s_whole_recording ["some"]
  deed_told : DefI K mg "deed_told" s_deed_told ["deed"]
  deeds_told : DefI K mg "deeds_told" s_deeds_told ["deeds"]
  grown : DefI K mg "grown" s_grown ["deed", "by"]
  step_of : DefI K mg "step_of" s_step_of ["deeds"]
  read_piece : DefI K mg "read_piece" s_read_piece ["numbers", "deep"]
  read_row : DefI K mg "read_row" s_read_row ["numbers", "deep"]
  whole_program : DefI K mg "whole_program" s_whole_program ["some"]
  many_pieces : DefI K mg "many_pieces" s_many_pieces ["row"]
  is_plain : DefI K mg "is_plain" s_is_plain ["row"]
  many_told : DefI K mg "many_told" s_many_told ["row"]
  told_by : DefI K mg "told_by" s_told_by ["row", "turn"]
  row_told : DefI K mg "row_told" s_row_told ["row"]
  Span_init : MethI K Span.C "__init__" "Span.__init__" s_Span_init ["self", "recording", "place", "length", "rounds"]
  Span_at : MethI K Span.C "at" "Span.at" s_Span_at ["self", "offset"]
  Span_step_at : MethI K Span.C "step_at" "Span.step_at" s_Span_step_at ["self", "offset"]
  Span_is_same_at : MethI K Span.C "is_same_at" "Span.is_same_at" s_Span_is_same_at ["self", "offset"]
  Span_is_plain_loop : MethI K Span.C "is_plain_loop" "Span.is_plain_loop" s_Span_is_plain_loop ["self"]
  Span_deed_piece : MethI K Span.C "deed_piece" "Span.deed_piece" s_Span_deed_piece ["self", "offset"]
  Span_plain_piece : MethI K Span.C "plain_piece" "Span.plain_piece" s_Span_plain_piece ["self"]
  Span_inner_spans : MethI K Span.C "inner_spans" "Span.inner_spans" s_Span_inner_spans ["self", "offset"]
  Span_are_same : MethI K Span.C "are_same" "Span.are_same" s_Span_are_same ["self", "offset", "many"]
  Span_long : MethI K Span.C "long" "Span.long" s_Span_long ["self"]
  Span_many_bodies : MethI K Span.C "many_bodies" "Span.many_bodies" s_Span_many_bodies ["self"]
  Span_least_body : MethI K Span.C "least_body" "Span.least_body" s_Span_least_body ["self"]
  spans_at : DefI K mg "spans_at" s_spans_at ["recording", "place", "end"]
  with_piece : DefI K mg "with_piece" s_with_piece ["many", "piece", "rest"]
  lesser : DefI K mg "lesser" s_lesser ["one", "other"]
  many_foldings : DefI K mg "many_foldings" s_many_foldings ["recording"]
  least_folding : DefI K mg "least_folding" s_least_folding ["recording"]
  plain_loops : DefI K mg "plain_loops" s_plain_loops ["recording"]
  does_show : DefI K mg "does_show" s_does_show ["deeds", "period"]
  tail_of : DefI K mg "tail_of" s_tail_of ["recording", "period"]
  does_count : DefI K mg "does_count" s_does_count ["period", "tail"]
  best_period : DefI K mg "best_period" s_best_period ["recording"]
  next_deed : DefI K mg "next_deed" s_next_deed ["recording", "period", "tail"]
  Table_init : MethI K Table.C "__init__" "Table.__init__" s_Table_init ["self", "rows", "cursor", "clip"]
  Table_told : MethI K Table.C "told" "Table.told" s_Table_told ["self"]
  Table_has_here : MethI K Table.C "has_here" "Table.has_here" s_Table_has_here ["self"]
  Table_put : MethI K Table.C "put" "Table.put" s_Table_put ["self", "field", "value"]
  Table_go_up : MethI K Table.C "go_up" "Table.go_up" s_Table_go_up ["self"]
  Table_double : MethI K Table.C "double" "Table.double" s_Table_double ["self"]
  Table_find : MethI K Table.C "find" "Table.find" s_Table_find ["self", "field", "number"]
  Table_do : MethI K Table.C "do" "Table.do" s_Table_do ["self", "deed"]
  Table_do_here : MethI K Table.C "do_here" "Table.do_here" s_Table_do_here ["self", "deed"]
  read_values : DefI K mg "read_values" s_read_values ["numbers"]
  whole_table : DefI K mg "whole_table" s_whole_table ["some"]
  run_on : DefI K mg "run_on" s_run_on ["table", "deeds"]
  first_unlike : DefI K mg "first_unlike" s_first_unlike ["one", "other"]
  deeds_of_program : DefI K mg "deeds_of_program" s_deeds_of_program ["some"]
  Desk_init : MethI K Desk.C "__init__" "Desk.__init__" s_Desk_init ["self"]
  Desk_do_record : MethI K Desk.C "do_record" "Desk.do_record" s_Desk_do_record ["self", "some"]
  Desk_do_add : MethI K Desk.C "do_add" "Desk.do_add" s_Desk_do_add ["self", "some"]
  Desk_do_drop : MethI K Desk.C "do_drop" "Desk.do_drop" s_Desk_do_drop ["self"]
  Desk_do_least : MethI K Desk.C "do_least" "Desk.do_least" s_Desk_do_least ["self"]
  Desk_do_is : MethI K Desk.C "do_is" "Desk.do_is" s_Desk_do_is ["self", "some"]
  Desk_do_next : MethI K Desk.C "do_next" "Desk.do_next" s_Desk_do_next ["self"]
  Desk_do_loops : MethI K Desk.C "do_loops" "Desk.do_loops" s_Desk_do_loops ["self"]
  Desk_do_play : MethI K Desk.C "do_play" "Desk.do_play" s_Desk_do_play ["self", "some"]
  Desk_with_list : MethI K Desk.C "with_list" "Desk.with_list" s_Desk_with_list ["self", "call", "some"]
  Desk_without_list : MethI K Desk.C "without_list" "Desk.without_list" s_Desk_without_list ["self", "call"]
  Desk_answer : MethI K Desk.C "answer" "Desk.answer" s_Desk_answer ["self", "call", "lists"]
  answers : DefI K mg "answers" s_answers ["calls"]
  c_DOWN : ∃ t, mg "DOWN" = some (.int 0 t)
  c_UP : ∃ t, mg "UP" = some (.int 1 t)
  c_TOP : ∃ t, mg "TOP" = some (.int 2 t)
  c_WRITE : ∃ t, mg "WRITE" = some (.int 3 t)
  c_ADD : ∃ t, mg "ADD" = some (.int 4 t)
  c_COPY : ∃ t, mg "COPY" = some (.int 5 t)
  c_PASTE : ∃ t, mg "PASTE" = some (.int 6 t)
  c_DELETE : ∃ t, mg "DELETE" = some (.int 7 t)
  c_DOUBLE : ∃ t, mg "DOUBLE" = some (.int 8 t)
  c_FIND : ∃ t, mg "FIND" = some (.int 9 t)
  c_LAST_FIELD : ∃ t, mg "LAST_FIELD" = some (.int 2 t)
  c_MOST : ∃ t, mg "MOST" = some (.int 999 t)
  c_MOST_DEEDS : ∃ t, mg "MOST_DEEDS" = some (.int 14 t)
  c_BAD : ∃ t, mg "BAD" = some (.int (-1) t)
  c_DEED : ∃ t, mg "DEED" = some (.int 0 t)
  c_LOOP : ∃ t, mg "LOOP" = some (.int 1 t)
  c_TO_END : ∃ t, mg "TO_END" = some (.int 2 t)
  c_PART : ∃ t, mg "PART" = some (.int 3 t)
  c_MOST_ROUNDS : ∃ t, mg "MOST_ROUNDS" = some (.int 9 t)
  c_MOST_PIECES : ∃ t, mg "MOST_PIECES" = some (.int 16 t)
  c_MOST_DEEP : ∃ t, mg "MOST_DEEP" = some (.int 3 t)
  c_LEAST_ROUNDS : ∃ t, mg "LEAST_ROUNDS" = some (.int 2 t)
  c_MOST_ROWS : ∃ t, mg "MOST_ROWS" = some (.int 8 t)
  c_FIELDS : ∃ t, mg "FIELDS" = some (.int 3 t)
  c_NO_ROW : ∃ t, mg "NO_ROW" = some (.int 1 t)
  c_AT_TOP : ∃ t, mg "AT_TOP" = some (.int 2 t)
  c_TOO_GREAT : ∃ t, mg "TOO_GREAT" = some (.int 3 t)
  c_FULL_tables : ∃ t, mg "FULL_tables" = some (.int 4 t)
  c_NONE_FOUND : ∃ t, mg "NONE_FOUND" = some (.int 5 t)
  c_NO_DEEDS : ∃ t, mg "NO_DEEDS" = some (.int (-2) t)
  c_NOT_PLAIN : ∃ t, mg "NOT_PLAIN" = some (.int (-4) t)
  c_FULL_desk : ∃ t, mg "FULL_desk" = some (.int (-6) t)
  c_TOO_MANY : ∃ t, mg "TOO_MANY" = some (.int (-7) t)
  c_MOST_TOLD : ∃ t, mg "MOST_TOLD" = some (.int 60 t)
  WITH_FIELD : TupI K mg "WITH_FIELD" [3, 4, 5, 6, 9]
  WITH_NUMBER : TupI K mg "WITH_NUMBER" [3, 4, 9]
  WITH_LIST : TupI K mg "WITH_LIST" [0, 1, 5, 6, 9]
  z_len : mg "len" = none
  z_range : mg "range" = none
  z_any : mg "any" = none
  z_all : mg "all" = none
  z_abs : mg "abs" = none
  z_enumerate : mg "enumerate" = none
  z_min : mg "min" = none
  z_sorted : mg "sorted" = none
  z_list : mg "list" = none
  z_zip : mg "zip" = none
  z_ValueError : mg "ValueError" = none
def txt_mk {K : PySem.W.Frag} {h : Heap} {mg : Str → Option Value} (X : K.In h) (G : h.Ns mainGlobals mg)
  {C fR : Addr} {nm q : Str} {N : Addr} {bs : List Value} {sn : List Str} {sub : List Value} {ab : Bool} {col : Option Bool} {dd : Option Addr} {m0 m1 m2 m3 m5 : Option Value} {odR anR : Option Addr} {slR : Array (Option Value)} {ocR dcR pmR cdR ctR : Value}
  {C_Numbers : Addr}
  {C_Span : Addr}
  {C_Table : Addr}
  {C_Desk : Addr}
  {f1 : Addr} {od1 an1 : Option Addr} {sl1 : Array (Option Value)} {oc1 kV1 dc1 pm1 cd1 ct1 : Value}
  {f2 : Addr} {od2 an2 : Option Addr} {sl2 : Array (Option Value)} {oc2 kV2 dc2 pm2 cd2 ct2 : Value}
  {f3 : Addr} {od3 an3 : Option Addr} {sl3 : Array (Option Value)} {oc3 kV3 dc3 pm3 cd3 ct3 : Value}
  {f4 : Addr} {od4 an4 : Option Addr} {sl4 : Array (Option Value)} {oc4 kV4 dc4 pm4 cd4 ct4 : Value}
  {f5 : Addr} {od5 an5 : Option Addr} {sl5 : Array (Option Value)} {oc5 kV5 dc5 pm5 cd5 ct5 : Value}
  {f6 : Addr} {od6 an6 : Option Addr} {sl6 : Array (Option Value)} {oc6 kV6 dc6 pm6 cd6 ct6 : Value}
  {f7 : Addr} {od7 an7 : Option Addr} {sl7 : Array (Option Value)} {oc7 kV7 dc7 pm7 cd7 ct7 : Value}
  {f8 : Addr} {od8 an8 : Option Addr} {sl8 : Array (Option Value)} {oc8 kV8 dc8 pm8 cd8 ct8 : Value}
  {f9 : Addr} {od9 an9 : Option Addr} {sl9 : Array (Option Value)} {oc9 kV9 dc9 pm9 cd9 ct9 : Value}
  {f10 : Addr} {od10 an10 : Option Addr} {sl10 : Array (Option Value)} {oc10 kV10 dc10 pm10 cd10 ct10 : Value}
  {f11 : Addr} {od11 an11 : Option Addr} {sl11 : Array (Option Value)} {oc11 kV11 dc11 pm11 cd11 ct11 : Value}
  {f12 : Addr} {od12 an12 : Option Addr} {sl12 : Array (Option Value)} {oc12 kV12 dc12 pm12 cd12 ct12 : Value}
  {f13 : Addr} {od13 an13 : Option Addr} {sl13 : Array (Option Value)} {oc13 kV13 dc13 pm13 cd13 ct13 : Value}
  {f14 : Addr} {od14 an14 : Option Addr} {sl14 : Array (Option Value)} {oc14 kV14 dc14 pm14 cd14 ct14 : Value}
  {f15 : Addr} {od15 an15 : Option Addr} {sl15 : Array (Option Value)} {oc15 kV15 dc15 pm15 cd15 ct15 : Value}
  {f16 : Addr} {od16 an16 : Option Addr} {sl16 : Array (Option Value)} {oc16 kV16 dc16 pm16 cd16 ct16 : Value}
  {f17 : Addr} {od17 an17 : Option Addr} {sl17 : Array (Option Value)} {oc17 kV17 dc17 pm17 cd17 ct17 : Value}
  {f18 : Addr} {od18 an18 : Option Addr} {sl18 : Array (Option Value)} {oc18 kV18 dc18 pm18 cd18 ct18 : Value}
  {f19 : Addr} {od19 an19 : Option Addr} {sl19 : Array (Option Value)} {oc19 kV19 dc19 pm19 cd19 ct19 : Value}
  {f20 : Addr} {od20 an20 : Option Addr} {sl20 : Array (Option Value)} {oc20 kV20 dc20 pm20 cd20 ct20 : Value}
  {f21 : Addr} {od21 an21 : Option Addr} {sl21 : Array (Option Value)} {oc21 kV21 dc21 pm21 cd21 ct21 : Value}
  {f22 : Addr} {od22 an22 : Option Addr} {sl22 : Array (Option Value)} {oc22 kV22 dc22 pm22 cd22 ct22 : Value}
  {f23 : Addr} {od23 an23 : Option Addr} {sl23 : Array (Option Value)} {oc23 kV23 dc23 pm23 cd23 ct23 : Value}
  {f24 : Addr} {od24 an24 : Option Addr} {sl24 : Array (Option Value)} {oc24 kV24 dc24 pm24 cd24 ct24 : Value}
  {f25 : Addr} {od25 an25 : Option Addr} {sl25 : Array (Option Value)} {oc25 kV25 dc25 pm25 cd25 ct25 : Value}
  {f26 : Addr} {od26 an26 : Option Addr} {sl26 : Array (Option Value)} {oc26 kV26 dc26 pm26 cd26 ct26 : Value}
  {f27 : Addr} {od27 an27 : Option Addr} {sl27 : Array (Option Value)} {oc27 kV27 dc27 pm27 cd27 ct27 : Value}
  {f28 : Addr} {od28 an28 : Option Addr} {sl28 : Array (Option Value)} {oc28 kV28 dc28 pm28 cd28 ct28 : Value}
  {f29 : Addr} {od29 an29 : Option Addr} {sl29 : Array (Option Value)} {oc29 kV29 dc29 pm29 cd29 ct29 : Value}
  {f30 : Addr} {od30 an30 : Option Addr} {sl30 : Array (Option Value)} {oc30 kV30 dc30 pm30 cd30 ct30 : Value}
  {f31 : Addr} {od31 an31 : Option Addr} {sl31 : Array (Option Value)} {oc31 kV31 dc31 pm31 cd31 ct31 : Value}
  {f32 : Addr} {od32 an32 : Option Addr} {sl32 : Array (Option Value)} {oc32 kV32 dc32 pm32 cd32 ct32 : Value}
  {f33 : Addr} {od33 an33 : Option Addr} {sl33 : Array (Option Value)} {oc33 kV33 dc33 pm33 cd33 ct33 : Value}
  {f34 : Addr} {od34 an34 : Option Addr} {sl34 : Array (Option Value)} {oc34 kV34 dc34 pm34 cd34 ct34 : Value}
  {f35 : Addr} {od35 an35 : Option Addr} {sl35 : Array (Option Value)} {oc35 kV35 dc35 pm35 cd35 ct35 : Value}
  {f36 : Addr} {od36 an36 : Option Addr} {sl36 : Array (Option Value)} {oc36 kV36 dc36 pm36 cd36 ct36 : Value}
  {f37 : Addr} {od37 an37 : Option Addr} {sl37 : Array (Option Value)} {oc37 kV37 dc37 pm37 cd37 ct37 : Value}
  {f38 : Addr} {od38 an38 : Option Addr} {sl38 : Array (Option Value)} {oc38 kV38 dc38 pm38 cd38 ct38 : Value}
  {f39 : Addr} {od39 an39 : Option Addr} {sl39 : Array (Option Value)} {oc39 kV39 dc39 pm39 cd39 ct39 : Value}
  {f40 : Addr} {od40 an40 : Option Addr} {sl40 : Array (Option Value)} {oc40 kV40 dc40 pm40 cd40 ct40 : Value}
  {f41 : Addr} {od41 an41 : Option Addr} {sl41 : Array (Option Value)} {oc41 kV41 dc41 pm41 cd41 ct41 : Value}
  {f42 : Addr} {od42 an42 : Option Addr} {sl42 : Array (Option Value)} {oc42 kV42 dc42 pm42 cd42 ct42 : Value}
  {f43 : Addr} {od43 an43 : Option Addr} {sl43 : Array (Option Value)} {oc43 kV43 dc43 pm43 cd43 ct43 : Value}
  {f44 : Addr} {od44 an44 : Option Addr} {sl44 : Array (Option Value)} {oc44 kV44 dc44 pm44 cd44 ct44 : Value}
  {f45 : Addr} {od45 an45 : Option Addr} {sl45 : Array (Option Value)} {oc45 kV45 dc45 pm45 cd45 ct45 : Value}
  {f46 : Addr} {od46 an46 : Option Addr} {sl46 : Array (Option Value)} {oc46 kV46 dc46 pm46 cd46 ct46 : Value}
  {f47 : Addr} {od47 an47 : Option Addr} {sl47 : Array (Option Value)} {oc47 kV47 dc47 pm47 cd47 ct47 : Value}
  {f48 : Addr} {od48 an48 : Option Addr} {sl48 : Array (Option Value)} {oc48 kV48 dc48 pm48 cd48 ct48 : Value}
  {f49 : Addr} {od49 an49 : Option Addr} {sl49 : Array (Option Value)} {oc49 kV49 dc49 pm49 cd49 ct49 : Value}
  {f50 : Addr} {od50 an50 : Option Addr} {sl50 : Array (Option Value)} {oc50 kV50 dc50 pm50 cd50 ct50 : Value}
  {f51 : Addr} {od51 an51 : Option Addr} {sl51 : Array (Option Value)} {oc51 kV51 dc51 pm51 cd51 ct51 : Value}
  {f52 : Addr} {od52 an52 : Option Addr} {sl52 : Array (Option Value)} {oc52 kV52 dc52 pm52 cd52 ct52 : Value}
  {f53 : Addr} {od53 an53 : Option Addr} {sl53 : Array (Option Value)} {oc53 kV53 dc53 pm53 cd53 ct53 : Value}
  {f54 : Addr} {od54 an54 : Option Addr} {sl54 : Array (Option Value)} {oc54 kV54 dc54 pm54 cd54 ct54 : Value}
  {f55 : Addr} {od55 an55 : Option Addr} {sl55 : Array (Option Value)} {oc55 kV55 dc55 pm55 cd55 ct55 : Value}
  {f56 : Addr} {od56 an56 : Option Addr} {sl56 : Array (Option Value)} {oc56 kV56 dc56 pm56 cd56 ct56 : Value}
  {f57 : Addr} {od57 an57 : Option Addr} {sl57 : Array (Option Value)} {oc57 kV57 dc57 pm57 cd57 ct57 : Value}
  {f58 : Addr} {od58 an58 : Option Addr} {sl58 : Array (Option Value)} {oc58 kV58 dc58 pm58 cd58 ct58 : Value}
  {f59 : Addr} {od59 an59 : Option Addr} {sl59 : Array (Option Value)} {oc59 kV59 dc59 pm59 cd59 ct59 : Value}
  {f60 : Addr} {od60 an60 : Option Addr} {sl60 : Array (Option Value)} {oc60 kV60 dc60 pm60 cd60 ct60 : Value}
  {f61 : Addr} {od61 an61 : Option Addr} {sl61 : Array (Option Value)} {oc61 kV61 dc61 pm61 cd61 ct61 : Value}
  {f62 : Addr} {od62 an62 : Option Addr} {sl62 : Array (Option Value)} {oc62 kV62 dc62 pm62 cd62 ct62 : Value}
  {f63 : Addr} {od63 an63 : Option Addr} {sl63 : Array (Option Value)} {oc63 kV63 dc63 pm63 cd63 ct63 : Value}
  {f64 : Addr} {od64 an64 : Option Addr} {sl64 : Array (Option Value)} {oc64 kV64 dc64 pm64 cd64 ct64 : Value}
  {f65 : Addr} {od65 an65 : Option Addr} {sl65 : Array (Option Value)} {oc65 kV65 dc65 pm65 cd65 ct65 : Value}
  {f66 : Addr} {od66 an66 : Option Addr} {sl66 : Array (Option Value)} {oc66 kV66 dc66 pm66 cd66 ct66 : Value}
  {f67 : Addr} {od67 an67 : Option Addr} {sl67 : Array (Option Value)} {oc67 kV67 dc67 pm67 cd67 ct67 : Value}
  {f68 : Addr} {od68 an68 : Option Addr} {sl68 : Array (Option Value)} {oc68 kV68 dc68 pm68 cd68 ct68 : Value}
  {f69 : Addr} {od69 an69 : Option Addr} {sl69 : Array (Option Value)} {oc69 kV69 dc69 pm69 cd69 ct69 : Value}
  {t_DOWN : Tok}
  {t_UP : Tok}
  {t_TOP : Tok}
  {t_WRITE : Tok}
  {t_ADD : Tok}
  {t_COPY : Tok}
  {t_PASTE : Tok}
  {t_DELETE : Tok}
  {t_DOUBLE : Tok}
  {t_FIND : Tok}
  {t_LAST_FIELD : Tok}
  {t_MOST : Tok}
  {t_MOST_DEEDS : Tok}
  {t_BAD : Tok}
  {t_DEED : Tok}
  {t_LOOP : Tok}
  {t_TO_END : Tok}
  {t_PART : Tok}
  {t_MOST_ROUNDS : Tok}
  {t_MOST_PIECES : Tok}
  {t_MOST_DEEP : Tok}
  {t_LEAST_ROUNDS : Tok}
  {t_MOST_ROWS : Tok}
  {t_FIELDS : Tok}
  {t_NO_ROW : Tok}
  {t_AT_TOP : Tok}
  {t_TOO_GREAT : Tok}
  {t_FULL_tables : Tok}
  {t_NONE_FOUND : Tok}
  {t_NO_DEEDS : Tok}
  {t_NOT_PLAIN : Tok}
  {t_FULL_desk : Tok}
  {t_TOO_MANY : Tok}
  {t_MOST_TOLD : Tok}
  {w_WITH_FIELD : Addr} {dd_WITH_FIELD : Option Addr} {sl_WITH_FIELD : Array (Option Value)} {n_WITH_FIELD : Nat} {t_WITH_FIELD_0 t_WITH_FIELD_1 t_WITH_FIELD_2 t_WITH_FIELD_3 t_WITH_FIELD_4 : Tok}
  {w_WITH_NUMBER : Addr} {dd_WITH_NUMBER : Option Addr} {sl_WITH_NUMBER : Array (Option Value)} {n_WITH_NUMBER : Nat} {t_WITH_NUMBER_0 t_WITH_NUMBER_1 t_WITH_NUMBER_2 : Tok}
  {w_WITH_LIST : Addr} {dd_WITH_LIST : Option Addr} {sl_WITH_LIST : Array (Option Value)} {n_WITH_LIST : Nat} {t_WITH_LIST_0 t_WITH_LIST_1 t_WITH_LIST_2 t_WITH_LIST_3 t_WITH_LIST_4 : Tok}
  (aR : PySem.W.nsIn K mainGlobals "Refused" = some (some (.ref C)))
  (xL : K.lookup C = some (excClassObj nm q C N bs [.type "ValueError", .type "Exception", .type "BaseException", .type "object"] true sn sub ab col dd m0 m1 m2 m3 m5 "ValueError.__new__"))
  (sa : PySem.W.findIn K (.ref C) "__setattr__" = some (some (.builtin "object.__setattr__")))
  (ga : PySem.W.findIn K (.ref C) "__getattribute__" = some (some (.builtin "BaseException.__getattribute__")))
  (gg : PySem.W.findIn K (.ref C) "__getattr__" = some none)
  (nb : PySem.W.findIn K (.ref C) "code" = some none)
  (aRI : PySem.W.findIn K (.ref C) "__init__" = some (some (.ref fR)))
  (tRI : PySem.W.typeIn K (.ref fR) = some (.type "function"))
  (lRI : K.lookup fR = some ⟨ocR, odR, .func (PySem.W.fnOf "__init__" "Refused.__init__" (PySem.LowX.iA ⟨19, 17, 19, 21⟩ ⟨19, 23, 19, 27⟩) (PySem.LowX.iB ⟨20, 8, 20, 12⟩ ⟨20, 8, 20, 17⟩ ⟨20, 20, 20, 24⟩ ⟨20, 8, 20, 24⟩) PySem.LowX.iS .none .none dcR pmR anR cdR ctR), slR⟩)
  (cRI : PySem.W.codeIn K cdR "Refused.__init__" = true)
  (kR : PySem.W.keepIn K (.ref C) = true)
  (eR : PySem.W.subIn K (.ref C) (.type "BaseException") = some true)
  (tR : PySem.W.typeIn K (.ref C) = some (.type "type"))
  (hR : PySem.W.hasDictIn K C = true)
  (iR : PySem.W.isClsIn K C = true)
  (sR : PySem.W.subIn K (.ref C) (.ref C) = some true)
  (a_Numbers : PySem.W.nsIn K mainGlobals "Numbers" = some (some (.ref C_Numbers)))
  (pg_Numbers : PySem.W.plainGet K C_Numbers Str.empty = true)
  (hd_Numbers : PySem.W.hasDictIn K C_Numbers = true)
  (po_Numbers : PySem.W.plainOver K C_Numbers = true)
  (sa_Numbers : PySem.W.findIn K (.ref C_Numbers) "__setattr__" = some (some (.builtin "object.__setattr__")))
  (mk_Numbers : PySem.W.makesIn K C_Numbers = true)
  (kp_Numbers : PySem.W.keepIn K (.ref C_Numbers) = true)
  (n_Numbers_some : PySem.W.findIn K (.ref C_Numbers) "some" = some none)
  (n_Numbers_done : PySem.W.findIn K (.ref C_Numbers) "done" = some none)
  (a_Span : PySem.W.nsIn K mainGlobals "Span" = some (some (.ref C_Span)))
  (pg_Span : PySem.W.plainGet K C_Span Str.empty = true)
  (hd_Span : PySem.W.hasDictIn K C_Span = true)
  (po_Span : PySem.W.plainOver K C_Span = true)
  (sa_Span : PySem.W.findIn K (.ref C_Span) "__setattr__" = some (some (.builtin "object.__setattr__")))
  (mk_Span : PySem.W.makesIn K C_Span = true)
  (kp_Span : PySem.W.keepIn K (.ref C_Span) = true)
  (n_Span_recording : PySem.W.findIn K (.ref C_Span) "recording" = some none)
  (n_Span_place : PySem.W.findIn K (.ref C_Span) "place" = some none)
  (n_Span_length : PySem.W.findIn K (.ref C_Span) "length" = some none)
  (n_Span_rounds : PySem.W.findIn K (.ref C_Span) "rounds" = some none)
  (a_Table : PySem.W.nsIn K mainGlobals "Table" = some (some (.ref C_Table)))
  (pg_Table : PySem.W.plainGet K C_Table Str.empty = true)
  (hd_Table : PySem.W.hasDictIn K C_Table = true)
  (po_Table : PySem.W.plainOver K C_Table = true)
  (sa_Table : PySem.W.findIn K (.ref C_Table) "__setattr__" = some (some (.builtin "object.__setattr__")))
  (mk_Table : PySem.W.makesIn K C_Table = true)
  (kp_Table : PySem.W.keepIn K (.ref C_Table) = true)
  (n_Table_rows : PySem.W.findIn K (.ref C_Table) "rows" = some none)
  (n_Table_cursor : PySem.W.findIn K (.ref C_Table) "cursor" = some none)
  (n_Table_clip : PySem.W.findIn K (.ref C_Table) "clip" = some none)
  (a_Desk : PySem.W.nsIn K mainGlobals "Desk" = some (some (.ref C_Desk)))
  (pg_Desk : PySem.W.plainGet K C_Desk Str.empty = true)
  (hd_Desk : PySem.W.hasDictIn K C_Desk = true)
  (po_Desk : PySem.W.plainOver K C_Desk = true)
  (sa_Desk : PySem.W.findIn K (.ref C_Desk) "__setattr__" = some (some (.builtin "object.__setattr__")))
  (mk_Desk : PySem.W.makesIn K C_Desk = true)
  (kp_Desk : PySem.W.keepIn K (.ref C_Desk) = true)
  (n_Desk_deeds : PySem.W.findIn K (.ref C_Desk) "deeds" = some none)
  (a1 : PySem.W.nsIn K mainGlobals "want" = some (some (.ref f1)))
  (l1 : K.lookup f1 = some ⟨oc1, od1, .func (PySem.W.fnOf "want" "want" (defArgs s_want) (defBody s_want) (defScope s_want) .none kV1 dc1 pm1 an1 cd1 ct1), sl1⟩)
  (c1 : PySem.W.codeIn K cd1 "want" = true)
  (k1 : PySem.W.keepIn K (.ref f1) = true)
  (a2 : PySem.W.findIn K (.ref C_Numbers) "__init__" = some (some (.ref f2)))
  (i2 : PySem.W.isFn K (.ref f2) = true)
  (l2 : K.lookup f2 = some ⟨oc2, od2, .func (PySem.W.fnOf "__init__" "Numbers.__init__" (defArgs s_Numbers_init) (defBody s_Numbers_init) (defScope s_Numbers_init) .none kV2 dc2 pm2 an2 cd2 ct2), sl2⟩)
  (c2 : PySem.W.codeIn K cd2 "Numbers.__init__" = true)
  (k2 : PySem.W.keepIn K (.ref f2) = true)
  (a3 : PySem.W.findIn K (.ref C_Numbers) "take" = some (some (.ref f3)))
  (i3 : PySem.W.isFn K (.ref f3) = true)
  (l3 : K.lookup f3 = some ⟨oc3, od3, .func (PySem.W.fnOf "take" "Numbers.take" (defArgs s_Numbers_take) (defBody s_Numbers_take) (defScope s_Numbers_take) .none kV3 dc3 pm3 an3 cd3 ct3), sl3⟩)
  (c3 : PySem.W.codeIn K cd3 "Numbers.take" = true)
  (k3 : PySem.W.keepIn K (.ref f3) = true)
  (a4 : PySem.W.findIn K (.ref C_Numbers) "end" = some (some (.ref f4)))
  (i4 : PySem.W.isFn K (.ref f4) = true)
  (l4 : K.lookup f4 = some ⟨oc4, od4, .func (PySem.W.fnOf "end" "Numbers.end" (defArgs s_Numbers_end) (defBody s_Numbers_end) (defScope s_Numbers_end) .none kV4 dc4 pm4 an4 cd4 ct4), sl4⟩)
  (c4 : PySem.W.codeIn K cd4 "Numbers.end" = true)
  (k4 : PySem.W.keepIn K (.ref f4) = true)
  (a5 : PySem.W.nsIn K mainGlobals "read_deed" = some (some (.ref f5)))
  (l5 : K.lookup f5 = some ⟨oc5, od5, .func (PySem.W.fnOf "read_deed" "read_deed" (defArgs s_read_deed) (defBody s_read_deed) (defScope s_read_deed) .none kV5 dc5 pm5 an5 cd5 ct5), sl5⟩)
  (c5 : PySem.W.codeIn K cd5 "read_deed" = true)
  (k5 : PySem.W.keepIn K (.ref f5) = true)
  (a6 : PySem.W.nsIn K mainGlobals "whole_deed" = some (some (.ref f6)))
  (l6 : K.lookup f6 = some ⟨oc6, od6, .func (PySem.W.fnOf "whole_deed" "whole_deed" (defArgs s_whole_deed) (defBody s_whole_deed) (defScope s_whole_deed) .none kV6 dc6 pm6 an6 cd6 ct6), sl6⟩)
  (c6 : PySem.W.codeIn K cd6 "whole_deed" = true)
  (k6 : PySem.W.keepIn K (.ref f6) = true)
  (a7 : PySem.W.nsIn K mainGlobals "whole_recording" = some (some (.ref f7)))
  (l7 : K.lookup f7 = some ⟨oc7, od7, .func (PySem.W.fnOf "whole_recording" "whole_recording" (defArgs s_whole_recording) (defBody s_whole_recording) (defScope s_whole_recording) .none kV7 dc7 pm7 an7 cd7 ct7), sl7⟩)
  (c7 : PySem.W.codeIn K cd7 "whole_recording" = true)
  (k7 : PySem.W.keepIn K (.ref f7) = true)
  (a8 : PySem.W.nsIn K mainGlobals "deed_told" = some (some (.ref f8)))
  (l8 : K.lookup f8 = some ⟨oc8, od8, .func (PySem.W.fnOf "deed_told" "deed_told" (defArgs s_deed_told) (defBody s_deed_told) (defScope s_deed_told) .none kV8 dc8 pm8 an8 cd8 ct8), sl8⟩)
  (c8 : PySem.W.codeIn K cd8 "deed_told" = true)
  (k8 : PySem.W.keepIn K (.ref f8) = true)
  (a9 : PySem.W.nsIn K mainGlobals "deeds_told" = some (some (.ref f9)))
  (l9 : K.lookup f9 = some ⟨oc9, od9, .func (PySem.W.fnOf "deeds_told" "deeds_told" (defArgs s_deeds_told) (defBody s_deeds_told) (defScope s_deeds_told) .none kV9 dc9 pm9 an9 cd9 ct9), sl9⟩)
  (c9 : PySem.W.codeIn K cd9 "deeds_told" = true)
  (k9 : PySem.W.keepIn K (.ref f9) = true)
  (a10 : PySem.W.nsIn K mainGlobals "grown" = some (some (.ref f10)))
  (l10 : K.lookup f10 = some ⟨oc10, od10, .func (PySem.W.fnOf "grown" "grown" (defArgs s_grown) (defBody s_grown) (defScope s_grown) .none kV10 dc10 pm10 an10 cd10 ct10), sl10⟩)
  (c10 : PySem.W.codeIn K cd10 "grown" = true)
  (k10 : PySem.W.keepIn K (.ref f10) = true)
  (a11 : PySem.W.nsIn K mainGlobals "step_of" = some (some (.ref f11)))
  (l11 : K.lookup f11 = some ⟨oc11, od11, .func (PySem.W.fnOf "step_of" "step_of" (defArgs s_step_of) (defBody s_step_of) (defScope s_step_of) .none kV11 dc11 pm11 an11 cd11 ct11), sl11⟩)
  (c11 : PySem.W.codeIn K cd11 "step_of" = true)
  (k11 : PySem.W.keepIn K (.ref f11) = true)
  (a12 : PySem.W.nsIn K mainGlobals "read_piece" = some (some (.ref f12)))
  (l12 : K.lookup f12 = some ⟨oc12, od12, .func (PySem.W.fnOf "read_piece" "read_piece" (defArgs s_read_piece) (defBody s_read_piece) (defScope s_read_piece) .none kV12 dc12 pm12 an12 cd12 ct12), sl12⟩)
  (c12 : PySem.W.codeIn K cd12 "read_piece" = true)
  (k12 : PySem.W.keepIn K (.ref f12) = true)
  (a13 : PySem.W.nsIn K mainGlobals "read_row" = some (some (.ref f13)))
  (l13 : K.lookup f13 = some ⟨oc13, od13, .func (PySem.W.fnOf "read_row" "read_row" (defArgs s_read_row) (defBody s_read_row) (defScope s_read_row) .none kV13 dc13 pm13 an13 cd13 ct13), sl13⟩)
  (c13 : PySem.W.codeIn K cd13 "read_row" = true)
  (k13 : PySem.W.keepIn K (.ref f13) = true)
  (a14 : PySem.W.nsIn K mainGlobals "whole_program" = some (some (.ref f14)))
  (l14 : K.lookup f14 = some ⟨oc14, od14, .func (PySem.W.fnOf "whole_program" "whole_program" (defArgs s_whole_program) (defBody s_whole_program) (defScope s_whole_program) .none kV14 dc14 pm14 an14 cd14 ct14), sl14⟩)
  (c14 : PySem.W.codeIn K cd14 "whole_program" = true)
  (k14 : PySem.W.keepIn K (.ref f14) = true)
  (a15 : PySem.W.nsIn K mainGlobals "many_pieces" = some (some (.ref f15)))
  (l15 : K.lookup f15 = some ⟨oc15, od15, .func (PySem.W.fnOf "many_pieces" "many_pieces" (defArgs s_many_pieces) (defBody s_many_pieces) (defScope s_many_pieces) .none kV15 dc15 pm15 an15 cd15 ct15), sl15⟩)
  (c15 : PySem.W.codeIn K cd15 "many_pieces" = true)
  (k15 : PySem.W.keepIn K (.ref f15) = true)
  (a16 : PySem.W.nsIn K mainGlobals "is_plain" = some (some (.ref f16)))
  (l16 : K.lookup f16 = some ⟨oc16, od16, .func (PySem.W.fnOf "is_plain" "is_plain" (defArgs s_is_plain) (defBody s_is_plain) (defScope s_is_plain) .none kV16 dc16 pm16 an16 cd16 ct16), sl16⟩)
  (c16 : PySem.W.codeIn K cd16 "is_plain" = true)
  (k16 : PySem.W.keepIn K (.ref f16) = true)
  (a17 : PySem.W.nsIn K mainGlobals "many_told" = some (some (.ref f17)))
  (l17 : K.lookup f17 = some ⟨oc17, od17, .func (PySem.W.fnOf "many_told" "many_told" (defArgs s_many_told) (defBody s_many_told) (defScope s_many_told) .none kV17 dc17 pm17 an17 cd17 ct17), sl17⟩)
  (c17 : PySem.W.codeIn K cd17 "many_told" = true)
  (k17 : PySem.W.keepIn K (.ref f17) = true)
  (a18 : PySem.W.nsIn K mainGlobals "told_by" = some (some (.ref f18)))
  (l18 : K.lookup f18 = some ⟨oc18, od18, .func (PySem.W.fnOf "told_by" "told_by" (defArgs s_told_by) (defBody s_told_by) (defScope s_told_by) .none kV18 dc18 pm18 an18 cd18 ct18), sl18⟩)
  (c18 : PySem.W.codeIn K cd18 "told_by" = true)
  (k18 : PySem.W.keepIn K (.ref f18) = true)
  (a19 : PySem.W.nsIn K mainGlobals "row_told" = some (some (.ref f19)))
  (l19 : K.lookup f19 = some ⟨oc19, od19, .func (PySem.W.fnOf "row_told" "row_told" (defArgs s_row_told) (defBody s_row_told) (defScope s_row_told) .none kV19 dc19 pm19 an19 cd19 ct19), sl19⟩)
  (c19 : PySem.W.codeIn K cd19 "row_told" = true)
  (k19 : PySem.W.keepIn K (.ref f19) = true)
  (a20 : PySem.W.findIn K (.ref C_Span) "__init__" = some (some (.ref f20)))
  (i20 : PySem.W.isFn K (.ref f20) = true)
  (l20 : K.lookup f20 = some ⟨oc20, od20, .func (PySem.W.fnOf "__init__" "Span.__init__" (defArgs s_Span_init) (defBody s_Span_init) (defScope s_Span_init) .none kV20 dc20 pm20 an20 cd20 ct20), sl20⟩)
  (c20 : PySem.W.codeIn K cd20 "Span.__init__" = true)
  (k20 : PySem.W.keepIn K (.ref f20) = true)
  (a21 : PySem.W.findIn K (.ref C_Span) "at" = some (some (.ref f21)))
  (i21 : PySem.W.isFn K (.ref f21) = true)
  (l21 : K.lookup f21 = some ⟨oc21, od21, .func (PySem.W.fnOf "at" "Span.at" (defArgs s_Span_at) (defBody s_Span_at) (defScope s_Span_at) .none kV21 dc21 pm21 an21 cd21 ct21), sl21⟩)
  (c21 : PySem.W.codeIn K cd21 "Span.at" = true)
  (k21 : PySem.W.keepIn K (.ref f21) = true)
  (a22 : PySem.W.findIn K (.ref C_Span) "step_at" = some (some (.ref f22)))
  (i22 : PySem.W.isFn K (.ref f22) = true)
  (l22 : K.lookup f22 = some ⟨oc22, od22, .func (PySem.W.fnOf "step_at" "Span.step_at" (defArgs s_Span_step_at) (defBody s_Span_step_at) (defScope s_Span_step_at) .none kV22 dc22 pm22 an22 cd22 ct22), sl22⟩)
  (c22 : PySem.W.codeIn K cd22 "Span.step_at" = true)
  (k22 : PySem.W.keepIn K (.ref f22) = true)
  (a23 : PySem.W.findIn K (.ref C_Span) "is_same_at" = some (some (.ref f23)))
  (i23 : PySem.W.isFn K (.ref f23) = true)
  (l23 : K.lookup f23 = some ⟨oc23, od23, .func (PySem.W.fnOf "is_same_at" "Span.is_same_at" (defArgs s_Span_is_same_at) (defBody s_Span_is_same_at) (defScope s_Span_is_same_at) .none kV23 dc23 pm23 an23 cd23 ct23), sl23⟩)
  (c23 : PySem.W.codeIn K cd23 "Span.is_same_at" = true)
  (k23 : PySem.W.keepIn K (.ref f23) = true)
  (a24 : PySem.W.findIn K (.ref C_Span) "is_plain_loop" = some (some (.ref f24)))
  (i24 : PySem.W.isFn K (.ref f24) = true)
  (l24 : K.lookup f24 = some ⟨oc24, od24, .func (PySem.W.fnOf "is_plain_loop" "Span.is_plain_loop" (defArgs s_Span_is_plain_loop) (defBody s_Span_is_plain_loop) (defScope s_Span_is_plain_loop) .none kV24 dc24 pm24 an24 cd24 ct24), sl24⟩)
  (c24 : PySem.W.codeIn K cd24 "Span.is_plain_loop" = true)
  (k24 : PySem.W.keepIn K (.ref f24) = true)
  (a25 : PySem.W.findIn K (.ref C_Span) "deed_piece" = some (some (.ref f25)))
  (i25 : PySem.W.isFn K (.ref f25) = true)
  (l25 : K.lookup f25 = some ⟨oc25, od25, .func (PySem.W.fnOf "deed_piece" "Span.deed_piece" (defArgs s_Span_deed_piece) (defBody s_Span_deed_piece) (defScope s_Span_deed_piece) .none kV25 dc25 pm25 an25 cd25 ct25), sl25⟩)
  (c25 : PySem.W.codeIn K cd25 "Span.deed_piece" = true)
  (k25 : PySem.W.keepIn K (.ref f25) = true)
  (a26 : PySem.W.findIn K (.ref C_Span) "plain_piece" = some (some (.ref f26)))
  (i26 : PySem.W.isFn K (.ref f26) = true)
  (l26 : K.lookup f26 = some ⟨oc26, od26, .func (PySem.W.fnOf "plain_piece" "Span.plain_piece" (defArgs s_Span_plain_piece) (defBody s_Span_plain_piece) (defScope s_Span_plain_piece) .none kV26 dc26 pm26 an26 cd26 ct26), sl26⟩)
  (c26 : PySem.W.codeIn K cd26 "Span.plain_piece" = true)
  (k26 : PySem.W.keepIn K (.ref f26) = true)
  (a27 : PySem.W.findIn K (.ref C_Span) "inner_spans" = some (some (.ref f27)))
  (i27 : PySem.W.isFn K (.ref f27) = true)
  (l27 : K.lookup f27 = some ⟨oc27, od27, .func (PySem.W.fnOf "inner_spans" "Span.inner_spans" (defArgs s_Span_inner_spans) (defBody s_Span_inner_spans) (defScope s_Span_inner_spans) .none kV27 dc27 pm27 an27 cd27 ct27), sl27⟩)
  (c27 : PySem.W.codeIn K cd27 "Span.inner_spans" = true)
  (k27 : PySem.W.keepIn K (.ref f27) = true)
  (a28 : PySem.W.findIn K (.ref C_Span) "are_same" = some (some (.ref f28)))
  (i28 : PySem.W.isFn K (.ref f28) = true)
  (l28 : K.lookup f28 = some ⟨oc28, od28, .func (PySem.W.fnOf "are_same" "Span.are_same" (defArgs s_Span_are_same) (defBody s_Span_are_same) (defScope s_Span_are_same) .none kV28 dc28 pm28 an28 cd28 ct28), sl28⟩)
  (c28 : PySem.W.codeIn K cd28 "Span.are_same" = true)
  (k28 : PySem.W.keepIn K (.ref f28) = true)
  (a29 : PySem.W.findIn K (.ref C_Span) "long" = some (some (.ref f29)))
  (i29 : PySem.W.isFn K (.ref f29) = true)
  (l29 : K.lookup f29 = some ⟨oc29, od29, .func (PySem.W.fnOf "long" "Span.long" (defArgs s_Span_long) (defBody s_Span_long) (defScope s_Span_long) .none kV29 dc29 pm29 an29 cd29 ct29), sl29⟩)
  (c29 : PySem.W.codeIn K cd29 "Span.long" = true)
  (k29 : PySem.W.keepIn K (.ref f29) = true)
  (a30 : PySem.W.findIn K (.ref C_Span) "many_bodies" = some (some (.ref f30)))
  (i30 : PySem.W.isFn K (.ref f30) = true)
  (l30 : K.lookup f30 = some ⟨oc30, od30, .func (PySem.W.fnOf "many_bodies" "Span.many_bodies" (defArgs s_Span_many_bodies) (defBody s_Span_many_bodies) (defScope s_Span_many_bodies) .none kV30 dc30 pm30 an30 cd30 ct30), sl30⟩)
  (c30 : PySem.W.codeIn K cd30 "Span.many_bodies" = true)
  (k30 : PySem.W.keepIn K (.ref f30) = true)
  (a31 : PySem.W.findIn K (.ref C_Span) "least_body" = some (some (.ref f31)))
  (i31 : PySem.W.isFn K (.ref f31) = true)
  (l31 : K.lookup f31 = some ⟨oc31, od31, .func (PySem.W.fnOf "least_body" "Span.least_body" (defArgs s_Span_least_body) (defBody s_Span_least_body) (defScope s_Span_least_body) .none kV31 dc31 pm31 an31 cd31 ct31), sl31⟩)
  (c31 : PySem.W.codeIn K cd31 "Span.least_body" = true)
  (k31 : PySem.W.keepIn K (.ref f31) = true)
  (a32 : PySem.W.nsIn K mainGlobals "spans_at" = some (some (.ref f32)))
  (l32 : K.lookup f32 = some ⟨oc32, od32, .func (PySem.W.fnOf "spans_at" "spans_at" (defArgs s_spans_at) (defBody s_spans_at) (defScope s_spans_at) .none kV32 dc32 pm32 an32 cd32 ct32), sl32⟩)
  (c32 : PySem.W.codeIn K cd32 "spans_at" = true)
  (k32 : PySem.W.keepIn K (.ref f32) = true)
  (a33 : PySem.W.nsIn K mainGlobals "with_piece" = some (some (.ref f33)))
  (l33 : K.lookup f33 = some ⟨oc33, od33, .func (PySem.W.fnOf "with_piece" "with_piece" (defArgs s_with_piece) (defBody s_with_piece) (defScope s_with_piece) .none kV33 dc33 pm33 an33 cd33 ct33), sl33⟩)
  (c33 : PySem.W.codeIn K cd33 "with_piece" = true)
  (k33 : PySem.W.keepIn K (.ref f33) = true)
  (a34 : PySem.W.nsIn K mainGlobals "lesser" = some (some (.ref f34)))
  (l34 : K.lookup f34 = some ⟨oc34, od34, .func (PySem.W.fnOf "lesser" "lesser" (defArgs s_lesser) (defBody s_lesser) (defScope s_lesser) .none kV34 dc34 pm34 an34 cd34 ct34), sl34⟩)
  (c34 : PySem.W.codeIn K cd34 "lesser" = true)
  (k34 : PySem.W.keepIn K (.ref f34) = true)
  (a35 : PySem.W.nsIn K mainGlobals "many_foldings" = some (some (.ref f35)))
  (l35 : K.lookup f35 = some ⟨oc35, od35, .func (PySem.W.fnOf "many_foldings" "many_foldings" (defArgs s_many_foldings) (defBody s_many_foldings) (defScope s_many_foldings) .none kV35 dc35 pm35 an35 cd35 ct35), sl35⟩)
  (c35 : PySem.W.codeIn K cd35 "many_foldings" = true)
  (k35 : PySem.W.keepIn K (.ref f35) = true)
  (a36 : PySem.W.nsIn K mainGlobals "least_folding" = some (some (.ref f36)))
  (l36 : K.lookup f36 = some ⟨oc36, od36, .func (PySem.W.fnOf "least_folding" "least_folding" (defArgs s_least_folding) (defBody s_least_folding) (defScope s_least_folding) .none kV36 dc36 pm36 an36 cd36 ct36), sl36⟩)
  (c36 : PySem.W.codeIn K cd36 "least_folding" = true)
  (k36 : PySem.W.keepIn K (.ref f36) = true)
  (a37 : PySem.W.nsIn K mainGlobals "plain_loops" = some (some (.ref f37)))
  (l37 : K.lookup f37 = some ⟨oc37, od37, .func (PySem.W.fnOf "plain_loops" "plain_loops" (defArgs s_plain_loops) (defBody s_plain_loops) (defScope s_plain_loops) .none kV37 dc37 pm37 an37 cd37 ct37), sl37⟩)
  (c37 : PySem.W.codeIn K cd37 "plain_loops" = true)
  (k37 : PySem.W.keepIn K (.ref f37) = true)
  (a38 : PySem.W.nsIn K mainGlobals "does_show" = some (some (.ref f38)))
  (l38 : K.lookup f38 = some ⟨oc38, od38, .func (PySem.W.fnOf "does_show" "does_show" (defArgs s_does_show) (defBody s_does_show) (defScope s_does_show) .none kV38 dc38 pm38 an38 cd38 ct38), sl38⟩)
  (c38 : PySem.W.codeIn K cd38 "does_show" = true)
  (k38 : PySem.W.keepIn K (.ref f38) = true)
  (a39 : PySem.W.nsIn K mainGlobals "tail_of" = some (some (.ref f39)))
  (l39 : K.lookup f39 = some ⟨oc39, od39, .func (PySem.W.fnOf "tail_of" "tail_of" (defArgs s_tail_of) (defBody s_tail_of) (defScope s_tail_of) .none kV39 dc39 pm39 an39 cd39 ct39), sl39⟩)
  (c39 : PySem.W.codeIn K cd39 "tail_of" = true)
  (k39 : PySem.W.keepIn K (.ref f39) = true)
  (a40 : PySem.W.nsIn K mainGlobals "does_count" = some (some (.ref f40)))
  (l40 : K.lookup f40 = some ⟨oc40, od40, .func (PySem.W.fnOf "does_count" "does_count" (defArgs s_does_count) (defBody s_does_count) (defScope s_does_count) .none kV40 dc40 pm40 an40 cd40 ct40), sl40⟩)
  (c40 : PySem.W.codeIn K cd40 "does_count" = true)
  (k40 : PySem.W.keepIn K (.ref f40) = true)
  (a41 : PySem.W.nsIn K mainGlobals "best_period" = some (some (.ref f41)))
  (l41 : K.lookup f41 = some ⟨oc41, od41, .func (PySem.W.fnOf "best_period" "best_period" (defArgs s_best_period) (defBody s_best_period) (defScope s_best_period) .none kV41 dc41 pm41 an41 cd41 ct41), sl41⟩)
  (c41 : PySem.W.codeIn K cd41 "best_period" = true)
  (k41 : PySem.W.keepIn K (.ref f41) = true)
  (a42 : PySem.W.nsIn K mainGlobals "next_deed" = some (some (.ref f42)))
  (l42 : K.lookup f42 = some ⟨oc42, od42, .func (PySem.W.fnOf "next_deed" "next_deed" (defArgs s_next_deed) (defBody s_next_deed) (defScope s_next_deed) .none kV42 dc42 pm42 an42 cd42 ct42), sl42⟩)
  (c42 : PySem.W.codeIn K cd42 "next_deed" = true)
  (k42 : PySem.W.keepIn K (.ref f42) = true)
  (a43 : PySem.W.findIn K (.ref C_Table) "__init__" = some (some (.ref f43)))
  (i43 : PySem.W.isFn K (.ref f43) = true)
  (l43 : K.lookup f43 = some ⟨oc43, od43, .func (PySem.W.fnOf "__init__" "Table.__init__" (defArgs s_Table_init) (defBody s_Table_init) (defScope s_Table_init) .none kV43 dc43 pm43 an43 cd43 ct43), sl43⟩)
  (c43 : PySem.W.codeIn K cd43 "Table.__init__" = true)
  (k43 : PySem.W.keepIn K (.ref f43) = true)
  (a44 : PySem.W.findIn K (.ref C_Table) "told" = some (some (.ref f44)))
  (i44 : PySem.W.isFn K (.ref f44) = true)
  (l44 : K.lookup f44 = some ⟨oc44, od44, .func (PySem.W.fnOf "told" "Table.told" (defArgs s_Table_told) (defBody s_Table_told) (defScope s_Table_told) .none kV44 dc44 pm44 an44 cd44 ct44), sl44⟩)
  (c44 : PySem.W.codeIn K cd44 "Table.told" = true)
  (k44 : PySem.W.keepIn K (.ref f44) = true)
  (a45 : PySem.W.findIn K (.ref C_Table) "has_here" = some (some (.ref f45)))
  (i45 : PySem.W.isFn K (.ref f45) = true)
  (l45 : K.lookup f45 = some ⟨oc45, od45, .func (PySem.W.fnOf "has_here" "Table.has_here" (defArgs s_Table_has_here) (defBody s_Table_has_here) (defScope s_Table_has_here) .none kV45 dc45 pm45 an45 cd45 ct45), sl45⟩)
  (c45 : PySem.W.codeIn K cd45 "Table.has_here" = true)
  (k45 : PySem.W.keepIn K (.ref f45) = true)
  (a46 : PySem.W.findIn K (.ref C_Table) "put" = some (some (.ref f46)))
  (i46 : PySem.W.isFn K (.ref f46) = true)
  (l46 : K.lookup f46 = some ⟨oc46, od46, .func (PySem.W.fnOf "put" "Table.put" (defArgs s_Table_put) (defBody s_Table_put) (defScope s_Table_put) .none kV46 dc46 pm46 an46 cd46 ct46), sl46⟩)
  (c46 : PySem.W.codeIn K cd46 "Table.put" = true)
  (k46 : PySem.W.keepIn K (.ref f46) = true)
  (a47 : PySem.W.findIn K (.ref C_Table) "go_up" = some (some (.ref f47)))
  (i47 : PySem.W.isFn K (.ref f47) = true)
  (l47 : K.lookup f47 = some ⟨oc47, od47, .func (PySem.W.fnOf "go_up" "Table.go_up" (defArgs s_Table_go_up) (defBody s_Table_go_up) (defScope s_Table_go_up) .none kV47 dc47 pm47 an47 cd47 ct47), sl47⟩)
  (c47 : PySem.W.codeIn K cd47 "Table.go_up" = true)
  (k47 : PySem.W.keepIn K (.ref f47) = true)
  (a48 : PySem.W.findIn K (.ref C_Table) "double" = some (some (.ref f48)))
  (i48 : PySem.W.isFn K (.ref f48) = true)
  (l48 : K.lookup f48 = some ⟨oc48, od48, .func (PySem.W.fnOf "double" "Table.double" (defArgs s_Table_double) (defBody s_Table_double) (defScope s_Table_double) .none kV48 dc48 pm48 an48 cd48 ct48), sl48⟩)
  (c48 : PySem.W.codeIn K cd48 "Table.double" = true)
  (k48 : PySem.W.keepIn K (.ref f48) = true)
  (a49 : PySem.W.findIn K (.ref C_Table) "find" = some (some (.ref f49)))
  (i49 : PySem.W.isFn K (.ref f49) = true)
  (l49 : K.lookup f49 = some ⟨oc49, od49, .func (PySem.W.fnOf "find" "Table.find" (defArgs s_Table_find) (defBody s_Table_find) (defScope s_Table_find) .none kV49 dc49 pm49 an49 cd49 ct49), sl49⟩)
  (c49 : PySem.W.codeIn K cd49 "Table.find" = true)
  (k49 : PySem.W.keepIn K (.ref f49) = true)
  (a50 : PySem.W.findIn K (.ref C_Table) "do" = some (some (.ref f50)))
  (i50 : PySem.W.isFn K (.ref f50) = true)
  (l50 : K.lookup f50 = some ⟨oc50, od50, .func (PySem.W.fnOf "do" "Table.do" (defArgs s_Table_do) (defBody s_Table_do) (defScope s_Table_do) .none kV50 dc50 pm50 an50 cd50 ct50), sl50⟩)
  (c50 : PySem.W.codeIn K cd50 "Table.do" = true)
  (k50 : PySem.W.keepIn K (.ref f50) = true)
  (a51 : PySem.W.findIn K (.ref C_Table) "do_here" = some (some (.ref f51)))
  (i51 : PySem.W.isFn K (.ref f51) = true)
  (l51 : K.lookup f51 = some ⟨oc51, od51, .func (PySem.W.fnOf "do_here" "Table.do_here" (defArgs s_Table_do_here) (defBody s_Table_do_here) (defScope s_Table_do_here) .none kV51 dc51 pm51 an51 cd51 ct51), sl51⟩)
  (c51 : PySem.W.codeIn K cd51 "Table.do_here" = true)
  (k51 : PySem.W.keepIn K (.ref f51) = true)
  (a52 : PySem.W.nsIn K mainGlobals "read_values" = some (some (.ref f52)))
  (l52 : K.lookup f52 = some ⟨oc52, od52, .func (PySem.W.fnOf "read_values" "read_values" (defArgs s_read_values) (defBody s_read_values) (defScope s_read_values) .none kV52 dc52 pm52 an52 cd52 ct52), sl52⟩)
  (c52 : PySem.W.codeIn K cd52 "read_values" = true)
  (k52 : PySem.W.keepIn K (.ref f52) = true)
  (a53 : PySem.W.nsIn K mainGlobals "whole_table" = some (some (.ref f53)))
  (l53 : K.lookup f53 = some ⟨oc53, od53, .func (PySem.W.fnOf "whole_table" "whole_table" (defArgs s_whole_table) (defBody s_whole_table) (defScope s_whole_table) .none kV53 dc53 pm53 an53 cd53 ct53), sl53⟩)
  (c53 : PySem.W.codeIn K cd53 "whole_table" = true)
  (k53 : PySem.W.keepIn K (.ref f53) = true)
  (a54 : PySem.W.nsIn K mainGlobals "run_on" = some (some (.ref f54)))
  (l54 : K.lookup f54 = some ⟨oc54, od54, .func (PySem.W.fnOf "run_on" "run_on" (defArgs s_run_on) (defBody s_run_on) (defScope s_run_on) .none kV54 dc54 pm54 an54 cd54 ct54), sl54⟩)
  (c54 : PySem.W.codeIn K cd54 "run_on" = true)
  (k54 : PySem.W.keepIn K (.ref f54) = true)
  (a55 : PySem.W.nsIn K mainGlobals "first_unlike" = some (some (.ref f55)))
  (l55 : K.lookup f55 = some ⟨oc55, od55, .func (PySem.W.fnOf "first_unlike" "first_unlike" (defArgs s_first_unlike) (defBody s_first_unlike) (defScope s_first_unlike) .none kV55 dc55 pm55 an55 cd55 ct55), sl55⟩)
  (c55 : PySem.W.codeIn K cd55 "first_unlike" = true)
  (k55 : PySem.W.keepIn K (.ref f55) = true)
  (a56 : PySem.W.nsIn K mainGlobals "deeds_of_program" = some (some (.ref f56)))
  (l56 : K.lookup f56 = some ⟨oc56, od56, .func (PySem.W.fnOf "deeds_of_program" "deeds_of_program" (defArgs s_deeds_of_program) (defBody s_deeds_of_program) (defScope s_deeds_of_program) .none kV56 dc56 pm56 an56 cd56 ct56), sl56⟩)
  (c56 : PySem.W.codeIn K cd56 "deeds_of_program" = true)
  (k56 : PySem.W.keepIn K (.ref f56) = true)
  (a57 : PySem.W.findIn K (.ref C_Desk) "__init__" = some (some (.ref f57)))
  (i57 : PySem.W.isFn K (.ref f57) = true)
  (l57 : K.lookup f57 = some ⟨oc57, od57, .func (PySem.W.fnOf "__init__" "Desk.__init__" (defArgs s_Desk_init) (defBody s_Desk_init) (defScope s_Desk_init) .none kV57 dc57 pm57 an57 cd57 ct57), sl57⟩)
  (c57 : PySem.W.codeIn K cd57 "Desk.__init__" = true)
  (k57 : PySem.W.keepIn K (.ref f57) = true)
  (a58 : PySem.W.findIn K (.ref C_Desk) "do_record" = some (some (.ref f58)))
  (i58 : PySem.W.isFn K (.ref f58) = true)
  (l58 : K.lookup f58 = some ⟨oc58, od58, .func (PySem.W.fnOf "do_record" "Desk.do_record" (defArgs s_Desk_do_record) (defBody s_Desk_do_record) (defScope s_Desk_do_record) .none kV58 dc58 pm58 an58 cd58 ct58), sl58⟩)
  (c58 : PySem.W.codeIn K cd58 "Desk.do_record" = true)
  (k58 : PySem.W.keepIn K (.ref f58) = true)
  (a59 : PySem.W.findIn K (.ref C_Desk) "do_add" = some (some (.ref f59)))
  (i59 : PySem.W.isFn K (.ref f59) = true)
  (l59 : K.lookup f59 = some ⟨oc59, od59, .func (PySem.W.fnOf "do_add" "Desk.do_add" (defArgs s_Desk_do_add) (defBody s_Desk_do_add) (defScope s_Desk_do_add) .none kV59 dc59 pm59 an59 cd59 ct59), sl59⟩)
  (c59 : PySem.W.codeIn K cd59 "Desk.do_add" = true)
  (k59 : PySem.W.keepIn K (.ref f59) = true)
  (a60 : PySem.W.findIn K (.ref C_Desk) "do_drop" = some (some (.ref f60)))
  (i60 : PySem.W.isFn K (.ref f60) = true)
  (l60 : K.lookup f60 = some ⟨oc60, od60, .func (PySem.W.fnOf "do_drop" "Desk.do_drop" (defArgs s_Desk_do_drop) (defBody s_Desk_do_drop) (defScope s_Desk_do_drop) .none kV60 dc60 pm60 an60 cd60 ct60), sl60⟩)
  (c60 : PySem.W.codeIn K cd60 "Desk.do_drop" = true)
  (k60 : PySem.W.keepIn K (.ref f60) = true)
  (a61 : PySem.W.findIn K (.ref C_Desk) "do_least" = some (some (.ref f61)))
  (i61 : PySem.W.isFn K (.ref f61) = true)
  (l61 : K.lookup f61 = some ⟨oc61, od61, .func (PySem.W.fnOf "do_least" "Desk.do_least" (defArgs s_Desk_do_least) (defBody s_Desk_do_least) (defScope s_Desk_do_least) .none kV61 dc61 pm61 an61 cd61 ct61), sl61⟩)
  (c61 : PySem.W.codeIn K cd61 "Desk.do_least" = true)
  (k61 : PySem.W.keepIn K (.ref f61) = true)
  (a62 : PySem.W.findIn K (.ref C_Desk) "do_is" = some (some (.ref f62)))
  (i62 : PySem.W.isFn K (.ref f62) = true)
  (l62 : K.lookup f62 = some ⟨oc62, od62, .func (PySem.W.fnOf "do_is" "Desk.do_is" (defArgs s_Desk_do_is) (defBody s_Desk_do_is) (defScope s_Desk_do_is) .none kV62 dc62 pm62 an62 cd62 ct62), sl62⟩)
  (c62 : PySem.W.codeIn K cd62 "Desk.do_is" = true)
  (k62 : PySem.W.keepIn K (.ref f62) = true)
  (a63 : PySem.W.findIn K (.ref C_Desk) "do_next" = some (some (.ref f63)))
  (i63 : PySem.W.isFn K (.ref f63) = true)
  (l63 : K.lookup f63 = some ⟨oc63, od63, .func (PySem.W.fnOf "do_next" "Desk.do_next" (defArgs s_Desk_do_next) (defBody s_Desk_do_next) (defScope s_Desk_do_next) .none kV63 dc63 pm63 an63 cd63 ct63), sl63⟩)
  (c63 : PySem.W.codeIn K cd63 "Desk.do_next" = true)
  (k63 : PySem.W.keepIn K (.ref f63) = true)
  (a64 : PySem.W.findIn K (.ref C_Desk) "do_loops" = some (some (.ref f64)))
  (i64 : PySem.W.isFn K (.ref f64) = true)
  (l64 : K.lookup f64 = some ⟨oc64, od64, .func (PySem.W.fnOf "do_loops" "Desk.do_loops" (defArgs s_Desk_do_loops) (defBody s_Desk_do_loops) (defScope s_Desk_do_loops) .none kV64 dc64 pm64 an64 cd64 ct64), sl64⟩)
  (c64 : PySem.W.codeIn K cd64 "Desk.do_loops" = true)
  (k64 : PySem.W.keepIn K (.ref f64) = true)
  (a65 : PySem.W.findIn K (.ref C_Desk) "do_play" = some (some (.ref f65)))
  (i65 : PySem.W.isFn K (.ref f65) = true)
  (l65 : K.lookup f65 = some ⟨oc65, od65, .func (PySem.W.fnOf "do_play" "Desk.do_play" (defArgs s_Desk_do_play) (defBody s_Desk_do_play) (defScope s_Desk_do_play) .none kV65 dc65 pm65 an65 cd65 ct65), sl65⟩)
  (c65 : PySem.W.codeIn K cd65 "Desk.do_play" = true)
  (k65 : PySem.W.keepIn K (.ref f65) = true)
  (a66 : PySem.W.findIn K (.ref C_Desk) "with_list" = some (some (.ref f66)))
  (i66 : PySem.W.isFn K (.ref f66) = true)
  (l66 : K.lookup f66 = some ⟨oc66, od66, .func (PySem.W.fnOf "with_list" "Desk.with_list" (defArgs s_Desk_with_list) (defBody s_Desk_with_list) (defScope s_Desk_with_list) .none kV66 dc66 pm66 an66 cd66 ct66), sl66⟩)
  (c66 : PySem.W.codeIn K cd66 "Desk.with_list" = true)
  (k66 : PySem.W.keepIn K (.ref f66) = true)
  (a67 : PySem.W.findIn K (.ref C_Desk) "without_list" = some (some (.ref f67)))
  (i67 : PySem.W.isFn K (.ref f67) = true)
  (l67 : K.lookup f67 = some ⟨oc67, od67, .func (PySem.W.fnOf "without_list" "Desk.without_list" (defArgs s_Desk_without_list) (defBody s_Desk_without_list) (defScope s_Desk_without_list) .none kV67 dc67 pm67 an67 cd67 ct67), sl67⟩)
  (c67 : PySem.W.codeIn K cd67 "Desk.without_list" = true)
  (k67 : PySem.W.keepIn K (.ref f67) = true)
  (a68 : PySem.W.findIn K (.ref C_Desk) "answer" = some (some (.ref f68)))
  (i68 : PySem.W.isFn K (.ref f68) = true)
  (l68 : K.lookup f68 = some ⟨oc68, od68, .func (PySem.W.fnOf "answer" "Desk.answer" (defArgs s_Desk_answer) (defBody s_Desk_answer) (defScope s_Desk_answer) .none kV68 dc68 pm68 an68 cd68 ct68), sl68⟩)
  (c68 : PySem.W.codeIn K cd68 "Desk.answer" = true)
  (k68 : PySem.W.keepIn K (.ref f68) = true)
  (a69 : PySem.W.nsIn K mainGlobals "answers" = some (some (.ref f69)))
  (l69 : K.lookup f69 = some ⟨oc69, od69, .func (PySem.W.fnOf "answers" "answers" (defArgs s_answers) (defBody s_answers) (defScope s_answers) .none kV69 dc69 pm69 an69 cd69 ct69), sl69⟩)
  (c69 : PySem.W.codeIn K cd69 "answers" = true)
  (k69 : PySem.W.keepIn K (.ref f69) = true)
  (g_DOWN : PySem.W.nsIn K mainGlobals "DOWN" = some (some (.int 0 t_DOWN)))
  (g_UP : PySem.W.nsIn K mainGlobals "UP" = some (some (.int 1 t_UP)))
  (g_TOP : PySem.W.nsIn K mainGlobals "TOP" = some (some (.int 2 t_TOP)))
  (g_WRITE : PySem.W.nsIn K mainGlobals "WRITE" = some (some (.int 3 t_WRITE)))
  (g_ADD : PySem.W.nsIn K mainGlobals "ADD" = some (some (.int 4 t_ADD)))
  (g_COPY : PySem.W.nsIn K mainGlobals "COPY" = some (some (.int 5 t_COPY)))
  (g_PASTE : PySem.W.nsIn K mainGlobals "PASTE" = some (some (.int 6 t_PASTE)))
  (g_DELETE : PySem.W.nsIn K mainGlobals "DELETE" = some (some (.int 7 t_DELETE)))
  (g_DOUBLE : PySem.W.nsIn K mainGlobals "DOUBLE" = some (some (.int 8 t_DOUBLE)))
  (g_FIND : PySem.W.nsIn K mainGlobals "FIND" = some (some (.int 9 t_FIND)))
  (g_LAST_FIELD : PySem.W.nsIn K mainGlobals "LAST_FIELD" = some (some (.int 2 t_LAST_FIELD)))
  (g_MOST : PySem.W.nsIn K mainGlobals "MOST" = some (some (.int 999 t_MOST)))
  (g_MOST_DEEDS : PySem.W.nsIn K mainGlobals "MOST_DEEDS" = some (some (.int 14 t_MOST_DEEDS)))
  (g_BAD : PySem.W.nsIn K mainGlobals "BAD" = some (some (.int (-1) t_BAD)))
  (g_DEED : PySem.W.nsIn K mainGlobals "DEED" = some (some (.int 0 t_DEED)))
  (g_LOOP : PySem.W.nsIn K mainGlobals "LOOP" = some (some (.int 1 t_LOOP)))
  (g_TO_END : PySem.W.nsIn K mainGlobals "TO_END" = some (some (.int 2 t_TO_END)))
  (g_PART : PySem.W.nsIn K mainGlobals "PART" = some (some (.int 3 t_PART)))
  (g_MOST_ROUNDS : PySem.W.nsIn K mainGlobals "MOST_ROUNDS" = some (some (.int 9 t_MOST_ROUNDS)))
  (g_MOST_PIECES : PySem.W.nsIn K mainGlobals "MOST_PIECES" = some (some (.int 16 t_MOST_PIECES)))
  (g_MOST_DEEP : PySem.W.nsIn K mainGlobals "MOST_DEEP" = some (some (.int 3 t_MOST_DEEP)))
  (g_LEAST_ROUNDS : PySem.W.nsIn K mainGlobals "LEAST_ROUNDS" = some (some (.int 2 t_LEAST_ROUNDS)))
  (g_MOST_ROWS : PySem.W.nsIn K mainGlobals "MOST_ROWS" = some (some (.int 8 t_MOST_ROWS)))
  (g_FIELDS : PySem.W.nsIn K mainGlobals "FIELDS" = some (some (.int 3 t_FIELDS)))
  (g_NO_ROW : PySem.W.nsIn K mainGlobals "NO_ROW" = some (some (.int 1 t_NO_ROW)))
  (g_AT_TOP : PySem.W.nsIn K mainGlobals "AT_TOP" = some (some (.int 2 t_AT_TOP)))
  (g_TOO_GREAT : PySem.W.nsIn K mainGlobals "TOO_GREAT" = some (some (.int 3 t_TOO_GREAT)))
  (g_FULL_tables : PySem.W.nsIn K mainGlobals "FULL_tables" = some (some (.int 4 t_FULL_tables)))
  (g_NONE_FOUND : PySem.W.nsIn K mainGlobals "NONE_FOUND" = some (some (.int 5 t_NONE_FOUND)))
  (g_NO_DEEDS : PySem.W.nsIn K mainGlobals "NO_DEEDS" = some (some (.int (-2) t_NO_DEEDS)))
  (g_NOT_PLAIN : PySem.W.nsIn K mainGlobals "NOT_PLAIN" = some (some (.int (-4) t_NOT_PLAIN)))
  (g_FULL_desk : PySem.W.nsIn K mainGlobals "FULL_desk" = some (some (.int (-6) t_FULL_desk)))
  (g_TOO_MANY : PySem.W.nsIn K mainGlobals "TOO_MANY" = some (some (.int (-7) t_TOO_MANY)))
  (g_MOST_TOLD : PySem.W.nsIn K mainGlobals "MOST_TOLD" = some (some (.int 60 t_MOST_TOLD)))
  (g_WITH_FIELD : PySem.W.nsIn K mainGlobals "WITH_FIELD" = some (some (.ref w_WITH_FIELD)))
  (o_WITH_FIELD : K.lookup w_WITH_FIELD = some ⟨.type "tuple", dd_WITH_FIELD, .seq #[.int 3 t_WITH_FIELD_0, .int 4 t_WITH_FIELD_1, .int 5 t_WITH_FIELD_2, .int 6 t_WITH_FIELD_3, .int 9 t_WITH_FIELD_4] n_WITH_FIELD, sl_WITH_FIELD⟩)
  (g_WITH_NUMBER : PySem.W.nsIn K mainGlobals "WITH_NUMBER" = some (some (.ref w_WITH_NUMBER)))
  (o_WITH_NUMBER : K.lookup w_WITH_NUMBER = some ⟨.type "tuple", dd_WITH_NUMBER, .seq #[.int 3 t_WITH_NUMBER_0, .int 4 t_WITH_NUMBER_1, .int 9 t_WITH_NUMBER_2] n_WITH_NUMBER, sl_WITH_NUMBER⟩)
  (g_WITH_LIST : PySem.W.nsIn K mainGlobals "WITH_LIST" = some (some (.ref w_WITH_LIST)))
  (o_WITH_LIST : K.lookup w_WITH_LIST = some ⟨.type "tuple", dd_WITH_LIST, .seq #[.int 0 t_WITH_LIST_0, .int 1 t_WITH_LIST_1, .int 5 t_WITH_LIST_2, .int 6 t_WITH_LIST_3, .int 9 t_WITH_LIST_4] n_WITH_LIST, sl_WITH_LIST⟩)
  (z_len : PySem.W.nsIn K mainGlobals "len" = some none)
  (z_range : PySem.W.nsIn K mainGlobals "range" = some none)
  (z_any : PySem.W.nsIn K mainGlobals "any" = some none)
  (z_all : PySem.W.nsIn K mainGlobals "all" = some none)
  (z_abs : PySem.W.nsIn K mainGlobals "abs" = some none)
  (z_enumerate : PySem.W.nsIn K mainGlobals "enumerate" = some none)
  (z_min : PySem.W.nsIn K mainGlobals "min" = some none)
  (z_sorted : PySem.W.nsIn K mainGlobals "sorted" = some none)
  (z_list : PySem.W.nsIn K mainGlobals "list" = some none)
  (z_zip : PySem.W.nsIn K mainGlobals "zip" = some none)
  (z_ValueError : PySem.W.nsIn K mainGlobals "ValueError" = some none) : Txt K mg :=
  { Ref := C, fRef := fR, low := { gC := PySem.W.mg_of X G aR, cls := ⟨nm, q, N, bs, _, sn, sub, ab, col, dd, m0, m1, m2, m3, m5, xL, by decide +kernel⟩, sa := sa, ga := ga, gg := gg, noN := nb, iC := aRI, tC := tRI, kC := kR, exC := eR, tyC := tR, hdC := hR, te := exm_self eR iR tR sR, fn := ⟨_, _, _, _, _, _, _, _, _, _, _, _, _, _, lRI, cRI⟩ },
    Numbers := ⟨C_Numbers, PySem.W.mg_of X G a_Numbers, ⟨pg_Numbers, hd_Numbers, po_Numbers, sa_Numbers⟩, mk_Numbers, kp_Numbers⟩,
    n_Numbers_some := n_Numbers_some,
    n_Numbers_done := n_Numbers_done,
    Span := ⟨C_Span, PySem.W.mg_of X G a_Span, ⟨pg_Span, hd_Span, po_Span, sa_Span⟩, mk_Span, kp_Span⟩,
    n_Span_recording := n_Span_recording,
    n_Span_place := n_Span_place,
    n_Span_length := n_Span_length,
    n_Span_rounds := n_Span_rounds,
    Table := ⟨C_Table, PySem.W.mg_of X G a_Table, ⟨pg_Table, hd_Table, po_Table, sa_Table⟩, mk_Table, kp_Table⟩,
    n_Table_rows := n_Table_rows,
    n_Table_cursor := n_Table_cursor,
    n_Table_clip := n_Table_clip,
    Desk := ⟨C_Desk, PySem.W.mg_of X G a_Desk, ⟨pg_Desk, hd_Desk, po_Desk, sa_Desk⟩, mk_Desk, kp_Desk⟩,
    n_Desk_deeds := n_Desk_deeds,
    want := ⟨f1, _, PySem.W.mg_of X G a1, k1, fun_mk (st := s_want) l1 c1 k1, (fun_mk (st := s_want) l1 c1 k1).binds (ps := ["truth", "code"]) fun _ _ _ _ _ _ us hl => match us, hl with | [_, _], _ => rfl⟩,
    Numbers_init := ⟨f2, _, ⟨a2, i2, k2⟩, fun_mk (st := s_Numbers_init) l2 c2 k2, (fun_mk (st := s_Numbers_init) l2 c2 k2).binds (ps := ["self", "some"]) fun _ _ _ _ _ _ us hl => match us, hl with | [_, _], _ => rfl⟩,
    Numbers_take := ⟨f3, _, ⟨a3, i3, k3⟩, fun_mk (st := s_Numbers_take) l3 c3 k3, (fun_mk (st := s_Numbers_take) l3 c3 k3).binds (ps := ["self", "least", "most"]) fun _ _ _ _ _ _ us hl => match us, hl with | [_, _, _], _ => rfl⟩,
    Numbers_end := ⟨f4, _, ⟨a4, i4, k4⟩, fun_mk (st := s_Numbers_end) l4 c4 k4, (fun_mk (st := s_Numbers_end) l4 c4 k4).binds (ps := ["self"]) fun _ _ _ _ _ _ us hl => match us, hl with | [_], _ => rfl⟩,
    read_deed := ⟨f5, _, PySem.W.mg_of X G a5, k5, fun_mk (st := s_read_deed) l5 c5 k5, (fun_mk (st := s_read_deed) l5 c5 k5).binds (ps := ["numbers"]) fun _ _ _ _ _ _ us hl => match us, hl with | [_], _ => rfl⟩,
    whole_deed := ⟨f6, _, PySem.W.mg_of X G a6, k6, fun_mk (st := s_whole_deed) l6 c6 k6, (fun_mk (st := s_whole_deed) l6 c6 k6).binds (ps := ["some"]) fun _ _ _ _ _ _ us hl => match us, hl with | [_], _ => rfl⟩,
    whole_recording := ⟨f7, _, PySem.W.mg_of X G a7, k7, fun_mk (st := s_whole_recording) l7 c7 k7, (fun_mk (st := s_whole_recording) l7 c7 k7).binds (ps := ["some"]) fun _ _ _ _ _ _ us hl => match us, hl with | [_], _ => rfl⟩,
    deed_told := ⟨f8, _, PySem.W.mg_of X G a8, k8, fun_mk (st := s_deed_told) l8 c8 k8, (fun_mk (st := s_deed_told) l8 c8 k8).binds (ps := ["deed"]) fun _ _ _ _ _ _ us hl => match us, hl with | [_], _ => rfl⟩,
    deeds_told := ⟨f9, _, PySem.W.mg_of X G a9, k9, fun_mk (st := s_deeds_told) l9 c9 k9, (fun_mk (st := s_deeds_told) l9 c9 k9).binds (ps := ["deeds"]) fun _ _ _ _ _ _ us hl => match us, hl with | [_], _ => rfl⟩,
    grown := ⟨f10, _, PySem.W.mg_of X G a10, k10, fun_mk (st := s_grown) l10 c10 k10, (fun_mk (st := s_grown) l10 c10 k10).binds (ps := ["deed", "by"]) fun _ _ _ _ _ _ us hl => match us, hl with | [_, _], _ => rfl⟩,
    step_of := ⟨f11, _, PySem.W.mg_of X G a11, k11, fun_mk (st := s_step_of) l11 c11 k11, (fun_mk (st := s_step_of) l11 c11 k11).binds (ps := ["deeds"]) fun _ _ _ _ _ _ us hl => match us, hl with | [_], _ => rfl⟩,
    read_piece := ⟨f12, _, PySem.W.mg_of X G a12, k12, fun_mk (st := s_read_piece) l12 c12 k12, (fun_mk (st := s_read_piece) l12 c12 k12).binds (ps := ["numbers", "deep"]) fun _ _ _ _ _ _ us hl => match us, hl with | [_, _], _ => rfl⟩,
    read_row := ⟨f13, _, PySem.W.mg_of X G a13, k13, fun_mk (st := s_read_row) l13 c13 k13, (fun_mk (st := s_read_row) l13 c13 k13).binds (ps := ["numbers", "deep"]) fun _ _ _ _ _ _ us hl => match us, hl with | [_, _], _ => rfl⟩,
    whole_program := ⟨f14, _, PySem.W.mg_of X G a14, k14, fun_mk (st := s_whole_program) l14 c14 k14, (fun_mk (st := s_whole_program) l14 c14 k14).binds (ps := ["some"]) fun _ _ _ _ _ _ us hl => match us, hl with | [_], _ => rfl⟩,
    many_pieces := ⟨f15, _, PySem.W.mg_of X G a15, k15, fun_mk (st := s_many_pieces) l15 c15 k15, (fun_mk (st := s_many_pieces) l15 c15 k15).binds (ps := ["row"]) fun _ _ _ _ _ _ us hl => match us, hl with | [_], _ => rfl⟩,
    is_plain := ⟨f16, _, PySem.W.mg_of X G a16, k16, fun_mk (st := s_is_plain) l16 c16 k16, (fun_mk (st := s_is_plain) l16 c16 k16).binds (ps := ["row"]) fun _ _ _ _ _ _ us hl => match us, hl with | [_], _ => rfl⟩,
    many_told := ⟨f17, _, PySem.W.mg_of X G a17, k17, fun_mk (st := s_many_told) l17 c17 k17, (fun_mk (st := s_many_told) l17 c17 k17).binds (ps := ["row"]) fun _ _ _ _ _ _ us hl => match us, hl with | [_], _ => rfl⟩,
    told_by := ⟨f18, _, PySem.W.mg_of X G a18, k18, fun_mk (st := s_told_by) l18 c18 k18, (fun_mk (st := s_told_by) l18 c18 k18).binds (ps := ["row", "turn"]) fun _ _ _ _ _ _ us hl => match us, hl with | [_, _], _ => rfl⟩,
    row_told := ⟨f19, _, PySem.W.mg_of X G a19, k19, fun_mk (st := s_row_told) l19 c19 k19, (fun_mk (st := s_row_told) l19 c19 k19).binds (ps := ["row"]) fun _ _ _ _ _ _ us hl => match us, hl with | [_], _ => rfl⟩,
    Span_init := ⟨f20, _, ⟨a20, i20, k20⟩, fun_mk (st := s_Span_init) l20 c20 k20, (fun_mk (st := s_Span_init) l20 c20 k20).binds (ps := ["self", "recording", "place", "length", "rounds"]) fun _ _ _ _ _ _ us hl => match us, hl with | [_, _, _, _, _], _ => rfl⟩,
    Span_at := ⟨f21, _, ⟨a21, i21, k21⟩, fun_mk (st := s_Span_at) l21 c21 k21, (fun_mk (st := s_Span_at) l21 c21 k21).binds (ps := ["self", "offset"]) fun _ _ _ _ _ _ us hl => match us, hl with | [_, _], _ => rfl⟩,
    Span_step_at := ⟨f22, _, ⟨a22, i22, k22⟩, fun_mk (st := s_Span_step_at) l22 c22 k22, (fun_mk (st := s_Span_step_at) l22 c22 k22).binds (ps := ["self", "offset"]) fun _ _ _ _ _ _ us hl => match us, hl with | [_, _], _ => rfl⟩,
    Span_is_same_at := ⟨f23, _, ⟨a23, i23, k23⟩, fun_mk (st := s_Span_is_same_at) l23 c23 k23, (fun_mk (st := s_Span_is_same_at) l23 c23 k23).binds (ps := ["self", "offset"]) fun _ _ _ _ _ _ us hl => match us, hl with | [_, _], _ => rfl⟩,
    Span_is_plain_loop := ⟨f24, _, ⟨a24, i24, k24⟩, fun_mk (st := s_Span_is_plain_loop) l24 c24 k24, (fun_mk (st := s_Span_is_plain_loop) l24 c24 k24).binds (ps := ["self"]) fun _ _ _ _ _ _ us hl => match us, hl with | [_], _ => rfl⟩,
    Span_deed_piece := ⟨f25, _, ⟨a25, i25, k25⟩, fun_mk (st := s_Span_deed_piece) l25 c25 k25, (fun_mk (st := s_Span_deed_piece) l25 c25 k25).binds (ps := ["self", "offset"]) fun _ _ _ _ _ _ us hl => match us, hl with | [_, _], _ => rfl⟩,
    Span_plain_piece := ⟨f26, _, ⟨a26, i26, k26⟩, fun_mk (st := s_Span_plain_piece) l26 c26 k26, (fun_mk (st := s_Span_plain_piece) l26 c26 k26).binds (ps := ["self"]) fun _ _ _ _ _ _ us hl => match us, hl with | [_], _ => rfl⟩,
    Span_inner_spans := ⟨f27, _, ⟨a27, i27, k27⟩, fun_mk (st := s_Span_inner_spans) l27 c27 k27, (fun_mk (st := s_Span_inner_spans) l27 c27 k27).binds (ps := ["self", "offset"]) fun _ _ _ _ _ _ us hl => match us, hl with | [_, _], _ => rfl⟩,
    Span_are_same := ⟨f28, _, ⟨a28, i28, k28⟩, fun_mk (st := s_Span_are_same) l28 c28 k28, (fun_mk (st := s_Span_are_same) l28 c28 k28).binds (ps := ["self", "offset", "many"]) fun _ _ _ _ _ _ us hl => match us, hl with | [_, _, _], _ => rfl⟩,
    Span_long := ⟨f29, _, ⟨a29, i29, k29⟩, fun_mk (st := s_Span_long) l29 c29 k29, (fun_mk (st := s_Span_long) l29 c29 k29).binds (ps := ["self"]) fun _ _ _ _ _ _ us hl => match us, hl with | [_], _ => rfl⟩,
    Span_many_bodies := ⟨f30, _, ⟨a30, i30, k30⟩, fun_mk (st := s_Span_many_bodies) l30 c30 k30, (fun_mk (st := s_Span_many_bodies) l30 c30 k30).binds (ps := ["self"]) fun _ _ _ _ _ _ us hl => match us, hl with | [_], _ => rfl⟩,
    Span_least_body := ⟨f31, _, ⟨a31, i31, k31⟩, fun_mk (st := s_Span_least_body) l31 c31 k31, (fun_mk (st := s_Span_least_body) l31 c31 k31).binds (ps := ["self"]) fun _ _ _ _ _ _ us hl => match us, hl with | [_], _ => rfl⟩,
    spans_at := ⟨f32, _, PySem.W.mg_of X G a32, k32, fun_mk (st := s_spans_at) l32 c32 k32, (fun_mk (st := s_spans_at) l32 c32 k32).binds (ps := ["recording", "place", "end"]) fun _ _ _ _ _ _ us hl => match us, hl with | [_, _, _], _ => rfl⟩,
    with_piece := ⟨f33, _, PySem.W.mg_of X G a33, k33, fun_mk (st := s_with_piece) l33 c33 k33, (fun_mk (st := s_with_piece) l33 c33 k33).binds (ps := ["many", "piece", "rest"]) fun _ _ _ _ _ _ us hl => match us, hl with | [_, _, _], _ => rfl⟩,
    lesser := ⟨f34, _, PySem.W.mg_of X G a34, k34, fun_mk (st := s_lesser) l34 c34 k34, (fun_mk (st := s_lesser) l34 c34 k34).binds (ps := ["one", "other"]) fun _ _ _ _ _ _ us hl => match us, hl with | [_, _], _ => rfl⟩,
    many_foldings := ⟨f35, _, PySem.W.mg_of X G a35, k35, fun_mk (st := s_many_foldings) l35 c35 k35, (fun_mk (st := s_many_foldings) l35 c35 k35).binds (ps := ["recording"]) fun _ _ _ _ _ _ us hl => match us, hl with | [_], _ => rfl⟩,
    least_folding := ⟨f36, _, PySem.W.mg_of X G a36, k36, fun_mk (st := s_least_folding) l36 c36 k36, (fun_mk (st := s_least_folding) l36 c36 k36).binds (ps := ["recording"]) fun _ _ _ _ _ _ us hl => match us, hl with | [_], _ => rfl⟩,
    plain_loops := ⟨f37, _, PySem.W.mg_of X G a37, k37, fun_mk (st := s_plain_loops) l37 c37 k37, (fun_mk (st := s_plain_loops) l37 c37 k37).binds (ps := ["recording"]) fun _ _ _ _ _ _ us hl => match us, hl with | [_], _ => rfl⟩,
    does_show := ⟨f38, _, PySem.W.mg_of X G a38, k38, fun_mk (st := s_does_show) l38 c38 k38, (fun_mk (st := s_does_show) l38 c38 k38).binds (ps := ["deeds", "period"]) fun _ _ _ _ _ _ us hl => match us, hl with | [_, _], _ => rfl⟩,
    tail_of := ⟨f39, _, PySem.W.mg_of X G a39, k39, fun_mk (st := s_tail_of) l39 c39 k39, (fun_mk (st := s_tail_of) l39 c39 k39).binds (ps := ["recording", "period"]) fun _ _ _ _ _ _ us hl => match us, hl with | [_, _], _ => rfl⟩,
    does_count := ⟨f40, _, PySem.W.mg_of X G a40, k40, fun_mk (st := s_does_count) l40 c40 k40, (fun_mk (st := s_does_count) l40 c40 k40).binds (ps := ["period", "tail"]) fun _ _ _ _ _ _ us hl => match us, hl with | [_, _], _ => rfl⟩,
    best_period := ⟨f41, _, PySem.W.mg_of X G a41, k41, fun_mk (st := s_best_period) l41 c41 k41, (fun_mk (st := s_best_period) l41 c41 k41).binds (ps := ["recording"]) fun _ _ _ _ _ _ us hl => match us, hl with | [_], _ => rfl⟩,
    next_deed := ⟨f42, _, PySem.W.mg_of X G a42, k42, fun_mk (st := s_next_deed) l42 c42 k42, (fun_mk (st := s_next_deed) l42 c42 k42).binds (ps := ["recording", "period", "tail"]) fun _ _ _ _ _ _ us hl => match us, hl with | [_, _, _], _ => rfl⟩,
    Table_init := ⟨f43, _, ⟨a43, i43, k43⟩, fun_mk (st := s_Table_init) l43 c43 k43, (fun_mk (st := s_Table_init) l43 c43 k43).binds (ps := ["self", "rows", "cursor", "clip"]) fun _ _ _ _ _ _ us hl => match us, hl with | [_, _, _, _], _ => rfl⟩,
    Table_told := ⟨f44, _, ⟨a44, i44, k44⟩, fun_mk (st := s_Table_told) l44 c44 k44, (fun_mk (st := s_Table_told) l44 c44 k44).binds (ps := ["self"]) fun _ _ _ _ _ _ us hl => match us, hl with | [_], _ => rfl⟩,
    Table_has_here := ⟨f45, _, ⟨a45, i45, k45⟩, fun_mk (st := s_Table_has_here) l45 c45 k45, (fun_mk (st := s_Table_has_here) l45 c45 k45).binds (ps := ["self"]) fun _ _ _ _ _ _ us hl => match us, hl with | [_], _ => rfl⟩,
    Table_put := ⟨f46, _, ⟨a46, i46, k46⟩, fun_mk (st := s_Table_put) l46 c46 k46, (fun_mk (st := s_Table_put) l46 c46 k46).binds (ps := ["self", "field", "value"]) fun _ _ _ _ _ _ us hl => match us, hl with | [_, _, _], _ => rfl⟩,
    Table_go_up := ⟨f47, _, ⟨a47, i47, k47⟩, fun_mk (st := s_Table_go_up) l47 c47 k47, (fun_mk (st := s_Table_go_up) l47 c47 k47).binds (ps := ["self"]) fun _ _ _ _ _ _ us hl => match us, hl with | [_], _ => rfl⟩,
    Table_double := ⟨f48, _, ⟨a48, i48, k48⟩, fun_mk (st := s_Table_double) l48 c48 k48, (fun_mk (st := s_Table_double) l48 c48 k48).binds (ps := ["self"]) fun _ _ _ _ _ _ us hl => match us, hl with | [_], _ => rfl⟩,
    Table_find := ⟨f49, _, ⟨a49, i49, k49⟩, fun_mk (st := s_Table_find) l49 c49 k49, (fun_mk (st := s_Table_find) l49 c49 k49).binds (ps := ["self", "field", "number"]) fun _ _ _ _ _ _ us hl => match us, hl with | [_, _, _], _ => rfl⟩,
    Table_do := ⟨f50, _, ⟨a50, i50, k50⟩, fun_mk (st := s_Table_do) l50 c50 k50, (fun_mk (st := s_Table_do) l50 c50 k50).binds (ps := ["self", "deed"]) fun _ _ _ _ _ _ us hl => match us, hl with | [_, _], _ => rfl⟩,
    Table_do_here := ⟨f51, _, ⟨a51, i51, k51⟩, fun_mk (st := s_Table_do_here) l51 c51 k51, (fun_mk (st := s_Table_do_here) l51 c51 k51).binds (ps := ["self", "deed"]) fun _ _ _ _ _ _ us hl => match us, hl with | [_, _], _ => rfl⟩,
    read_values := ⟨f52, _, PySem.W.mg_of X G a52, k52, fun_mk (st := s_read_values) l52 c52 k52, (fun_mk (st := s_read_values) l52 c52 k52).binds (ps := ["numbers"]) fun _ _ _ _ _ _ us hl => match us, hl with | [_], _ => rfl⟩,
    whole_table := ⟨f53, _, PySem.W.mg_of X G a53, k53, fun_mk (st := s_whole_table) l53 c53 k53, (fun_mk (st := s_whole_table) l53 c53 k53).binds (ps := ["some"]) fun _ _ _ _ _ _ us hl => match us, hl with | [_], _ => rfl⟩,
    run_on := ⟨f54, _, PySem.W.mg_of X G a54, k54, fun_mk (st := s_run_on) l54 c54 k54, (fun_mk (st := s_run_on) l54 c54 k54).binds (ps := ["table", "deeds"]) fun _ _ _ _ _ _ us hl => match us, hl with | [_, _], _ => rfl⟩,
    first_unlike := ⟨f55, _, PySem.W.mg_of X G a55, k55, fun_mk (st := s_first_unlike) l55 c55 k55, (fun_mk (st := s_first_unlike) l55 c55 k55).binds (ps := ["one", "other"]) fun _ _ _ _ _ _ us hl => match us, hl with | [_, _], _ => rfl⟩,
    deeds_of_program := ⟨f56, _, PySem.W.mg_of X G a56, k56, fun_mk (st := s_deeds_of_program) l56 c56 k56, (fun_mk (st := s_deeds_of_program) l56 c56 k56).binds (ps := ["some"]) fun _ _ _ _ _ _ us hl => match us, hl with | [_], _ => rfl⟩,
    Desk_init := ⟨f57, _, ⟨a57, i57, k57⟩, fun_mk (st := s_Desk_init) l57 c57 k57, (fun_mk (st := s_Desk_init) l57 c57 k57).binds (ps := ["self"]) fun _ _ _ _ _ _ us hl => match us, hl with | [_], _ => rfl⟩,
    Desk_do_record := ⟨f58, _, ⟨a58, i58, k58⟩, fun_mk (st := s_Desk_do_record) l58 c58 k58, (fun_mk (st := s_Desk_do_record) l58 c58 k58).binds (ps := ["self", "some"]) fun _ _ _ _ _ _ us hl => match us, hl with | [_, _], _ => rfl⟩,
    Desk_do_add := ⟨f59, _, ⟨a59, i59, k59⟩, fun_mk (st := s_Desk_do_add) l59 c59 k59, (fun_mk (st := s_Desk_do_add) l59 c59 k59).binds (ps := ["self", "some"]) fun _ _ _ _ _ _ us hl => match us, hl with | [_, _], _ => rfl⟩,
    Desk_do_drop := ⟨f60, _, ⟨a60, i60, k60⟩, fun_mk (st := s_Desk_do_drop) l60 c60 k60, (fun_mk (st := s_Desk_do_drop) l60 c60 k60).binds (ps := ["self"]) fun _ _ _ _ _ _ us hl => match us, hl with | [_], _ => rfl⟩,
    Desk_do_least := ⟨f61, _, ⟨a61, i61, k61⟩, fun_mk (st := s_Desk_do_least) l61 c61 k61, (fun_mk (st := s_Desk_do_least) l61 c61 k61).binds (ps := ["self"]) fun _ _ _ _ _ _ us hl => match us, hl with | [_], _ => rfl⟩,
    Desk_do_is := ⟨f62, _, ⟨a62, i62, k62⟩, fun_mk (st := s_Desk_do_is) l62 c62 k62, (fun_mk (st := s_Desk_do_is) l62 c62 k62).binds (ps := ["self", "some"]) fun _ _ _ _ _ _ us hl => match us, hl with | [_, _], _ => rfl⟩,
    Desk_do_next := ⟨f63, _, ⟨a63, i63, k63⟩, fun_mk (st := s_Desk_do_next) l63 c63 k63, (fun_mk (st := s_Desk_do_next) l63 c63 k63).binds (ps := ["self"]) fun _ _ _ _ _ _ us hl => match us, hl with | [_], _ => rfl⟩,
    Desk_do_loops := ⟨f64, _, ⟨a64, i64, k64⟩, fun_mk (st := s_Desk_do_loops) l64 c64 k64, (fun_mk (st := s_Desk_do_loops) l64 c64 k64).binds (ps := ["self"]) fun _ _ _ _ _ _ us hl => match us, hl with | [_], _ => rfl⟩,
    Desk_do_play := ⟨f65, _, ⟨a65, i65, k65⟩, fun_mk (st := s_Desk_do_play) l65 c65 k65, (fun_mk (st := s_Desk_do_play) l65 c65 k65).binds (ps := ["self", "some"]) fun _ _ _ _ _ _ us hl => match us, hl with | [_, _], _ => rfl⟩,
    Desk_with_list := ⟨f66, _, ⟨a66, i66, k66⟩, fun_mk (st := s_Desk_with_list) l66 c66 k66, (fun_mk (st := s_Desk_with_list) l66 c66 k66).binds (ps := ["self", "call", "some"]) fun _ _ _ _ _ _ us hl => match us, hl with | [_, _, _], _ => rfl⟩,
    Desk_without_list := ⟨f67, _, ⟨a67, i67, k67⟩, fun_mk (st := s_Desk_without_list) l67 c67 k67, (fun_mk (st := s_Desk_without_list) l67 c67 k67).binds (ps := ["self", "call"]) fun _ _ _ _ _ _ us hl => match us, hl with | [_, _], _ => rfl⟩,
    Desk_answer := ⟨f68, _, ⟨a68, i68, k68⟩, fun_mk (st := s_Desk_answer) l68 c68 k68, (fun_mk (st := s_Desk_answer) l68 c68 k68).binds (ps := ["self", "call", "lists"]) fun _ _ _ _ _ _ us hl => match us, hl with | [_, _, _], _ => rfl⟩,
    answers := ⟨f69, _, PySem.W.mg_of X G a69, k69, fun_mk (st := s_answers) l69 c69 k69, (fun_mk (st := s_answers) l69 c69 k69).binds (ps := ["calls"]) fun _ _ _ _ _ _ us hl => match us, hl with | [_], _ => rfl⟩,
    c_DOWN := ⟨_, PySem.W.mg_of X G g_DOWN⟩,
    c_UP := ⟨_, PySem.W.mg_of X G g_UP⟩,
    c_TOP := ⟨_, PySem.W.mg_of X G g_TOP⟩,
    c_WRITE := ⟨_, PySem.W.mg_of X G g_WRITE⟩,
    c_ADD := ⟨_, PySem.W.mg_of X G g_ADD⟩,
    c_COPY := ⟨_, PySem.W.mg_of X G g_COPY⟩,
    c_PASTE := ⟨_, PySem.W.mg_of X G g_PASTE⟩,
    c_DELETE := ⟨_, PySem.W.mg_of X G g_DELETE⟩,
    c_DOUBLE := ⟨_, PySem.W.mg_of X G g_DOUBLE⟩,
    c_FIND := ⟨_, PySem.W.mg_of X G g_FIND⟩,
    c_LAST_FIELD := ⟨_, PySem.W.mg_of X G g_LAST_FIELD⟩,
    c_MOST := ⟨_, PySem.W.mg_of X G g_MOST⟩,
    c_MOST_DEEDS := ⟨_, PySem.W.mg_of X G g_MOST_DEEDS⟩,
    c_BAD := ⟨_, PySem.W.mg_of X G g_BAD⟩,
    c_DEED := ⟨_, PySem.W.mg_of X G g_DEED⟩,
    c_LOOP := ⟨_, PySem.W.mg_of X G g_LOOP⟩,
    c_TO_END := ⟨_, PySem.W.mg_of X G g_TO_END⟩,
    c_PART := ⟨_, PySem.W.mg_of X G g_PART⟩,
    c_MOST_ROUNDS := ⟨_, PySem.W.mg_of X G g_MOST_ROUNDS⟩,
    c_MOST_PIECES := ⟨_, PySem.W.mg_of X G g_MOST_PIECES⟩,
    c_MOST_DEEP := ⟨_, PySem.W.mg_of X G g_MOST_DEEP⟩,
    c_LEAST_ROUNDS := ⟨_, PySem.W.mg_of X G g_LEAST_ROUNDS⟩,
    c_MOST_ROWS := ⟨_, PySem.W.mg_of X G g_MOST_ROWS⟩,
    c_FIELDS := ⟨_, PySem.W.mg_of X G g_FIELDS⟩,
    c_NO_ROW := ⟨_, PySem.W.mg_of X G g_NO_ROW⟩,
    c_AT_TOP := ⟨_, PySem.W.mg_of X G g_AT_TOP⟩,
    c_TOO_GREAT := ⟨_, PySem.W.mg_of X G g_TOO_GREAT⟩,
    c_FULL_tables := ⟨_, PySem.W.mg_of X G g_FULL_tables⟩,
    c_NONE_FOUND := ⟨_, PySem.W.mg_of X G g_NONE_FOUND⟩,
    c_NO_DEEDS := ⟨_, PySem.W.mg_of X G g_NO_DEEDS⟩,
    c_NOT_PLAIN := ⟨_, PySem.W.mg_of X G g_NOT_PLAIN⟩,
    c_FULL_desk := ⟨_, PySem.W.mg_of X G g_FULL_desk⟩,
    c_TOO_MANY := ⟨_, PySem.W.mg_of X G g_TOO_MANY⟩,
    c_MOST_TOLD := ⟨_, PySem.W.mg_of X G g_MOST_TOLD⟩,
    WITH_FIELD := ⟨w_WITH_FIELD, PySem.W.mg_of X G g_WITH_FIELD, fun _ => .inr ⟨_, _, _, o_WITH_FIELD, rfl, rfl, (by show 5 ≤ sizeLine; decide), .cons ⟨_, rfl⟩ (.cons ⟨_, rfl⟩ (.cons ⟨_, rfl⟩ (.cons ⟨_, rfl⟩ (.cons ⟨_, rfl⟩ (.nil)))))⟩⟩,
    WITH_NUMBER := ⟨w_WITH_NUMBER, PySem.W.mg_of X G g_WITH_NUMBER, fun _ => .inr ⟨_, _, _, o_WITH_NUMBER, rfl, rfl, (by show 3 ≤ sizeLine; decide), .cons ⟨_, rfl⟩ (.cons ⟨_, rfl⟩ (.cons ⟨_, rfl⟩ (.nil)))⟩⟩,
    WITH_LIST := ⟨w_WITH_LIST, PySem.W.mg_of X G g_WITH_LIST, fun _ => .inr ⟨_, _, _, o_WITH_LIST, rfl, rfl, (by show 5 ≤ sizeLine; decide), .cons ⟨_, rfl⟩ (.cons ⟨_, rfl⟩ (.cons ⟨_, rfl⟩ (.cons ⟨_, rfl⟩ (.cons ⟨_, rfl⟩ (.nil)))))⟩⟩,
    z_len := PySem.W.mg_none_of X G z_len,
    z_range := PySem.W.mg_none_of X G z_range,
    z_any := PySem.W.mg_none_of X G z_any,
    z_all := PySem.W.mg_none_of X G z_all,
    z_abs := PySem.W.mg_none_of X G z_abs,
    z_enumerate := PySem.W.mg_none_of X G z_enumerate,
    z_min := PySem.W.mg_none_of X G z_min,
    z_sorted := PySem.W.mg_none_of X G z_sorted,
    z_list := PySem.W.mg_none_of X G z_list,
    z_zip := PySem.W.mg_none_of X G z_zip,
    z_ValueError := PySem.W.mg_none_of X G z_ValueError }
end My
namespace My
open PySem PySem.Spec PyProof.Rows L2
/-! ### xs[p::m] -/
/-- every m-th of a list's items, from a place on -/
def everyV (xs : List V) (p m : Nat) : List V := (List.range ((xs.length - p + m - 1) / m)).filterMap fun i => xs[p + i * m]?
theorem Vals.pick {xs : List V} {us : List Value} (r : Vals xs us) : ∀ L : List Nat, Vals (L.filterMap fun i => xs[i]?) (L.filterMap fun i => us[i]?)
  | [] => .nil
  | i :: L => by
    rw [List.filterMap_cons, List.filterMap_cons]
    cases e : xs[i]? with
    | none =>
      rw [r.none_of e]
      exact Vals.pick r L
    | some x =>
      obtain ⟨u, hu, ru⟩ := r.get e
      rw [hu]
      exact .cons ru (Vals.pick r L)
theorem slicePick_every (its : List Value) (p m : Nat) (hm : 0 < m) (hp : p ≤ its.length) :
    slicePick its.toArray (some (p : Int)) none (some (m : Int)) = (((List.range ((its.length - p + m - 1) / m)).map fun i => p + i * m).filterMap fun i => its[i]?).toArray := by
  have hc : ((m : Nat) : Int) > 0 := by omega
  have e : sliceBounds (some (p : Int)) none (some (m : Int)) its.toArray.size = ((p : Int), (its.length : Int), (m : Int)) := by
    simp only [sliceBounds, Option.getD_some, List.size_toArray]
    have h1 : ¬ ((p : Int) < 0) := by omega
    simp only [h1, if_false, hc, if_true]
    congr 1
    omega
  unfold slicePick
  rw [e]
  have er : sliceRange (p : Int) (its.length : Int) (m : Int) = (List.range ((its.length - p + m - 1) / m)).map fun i => p + i * m := by
    unfold sliceRange
    simp only [hc, if_true]
    have ec : (if (p : Int) < (its.length : Int) then ((its.length : Int) - p + m - 1) / m else 0).toNat = (its.length - p + m - 1) / m := by
      by_cases hlt : p < its.length
      · rw [if_pos (by omega)]
        have : (its.length : Int) - p + m - 1 = ((its.length - p + m - 1 : Nat) : Int) := by omega
        rw [this, ← Int.natCast_ediv, Int.toNat_natCast]
      · rw [if_neg (by omega)]
        have : its.length - p = 0 := by omega
        rw [this, Nat.div_eq_of_lt (by omega)]
        rfl
    rw [ec]
    apply List.map_congr_left
    intro i _
    have : (p : Int) + (m : Int) * (i : Int) = ((p + i * m : Nat) : Int) := by
      rw [Int.natCast_add, Int.natCast_mul, Int.mul_comm]
    rw [this, Int.toNat_natCast]
  rw [er]
  congr 1
  funext
  simp only [List.getElem?_toArray]
theorem every_length (xs : List V) (p m : Nat) (hm : 0 < m) : (everyV xs p m).length ≤ xs.length := by
  unfold everyV
  refine Nat.le_trans (List.length_filterMap_le _ _) ?_
  rw [List.length_range]
  by_cases h : p < xs.length
  · refine Nat.le_trans ?_ (Nat.sub_le xs.length p)
    have h1 : (xs.length - p + m - 1) / m ≤ (xs.length - p) * m / m := Nat.div_le_div_right (by
      have : xs.length - p + (m - 1) ≤ (xs.length - p) * m := by
        obtain ⟨d, hd⟩ : ∃ d, xs.length - p = d + 1 := ⟨xs.length - p - 1, by omega⟩
        obtain ⟨e, he⟩ : ∃ e, m = e + 1 := ⟨m - 1, by omega⟩
        rw [hd, he, Nat.add_mul, Nat.one_mul, Nat.mul_add, Nat.mul_one]
        omega
      omega)
    rw [Nat.mul_div_cancel _ hm] at h1
    exact h1
  · have : xs.length - p = 0 := by omega
    rw [this, Nat.div_eq_of_lt (by omega)]
    exact Nat.zero_le _
/-- xs[p::m] of a list: a new list -/
def tSlS (K : PySem.W.Frag) (te tl ts : TE) : TE := fun σ H Q => te σ H fun x H1 => tl σ H1 fun l H2 => ∃ p : Nat, l = .int p ∧ ts σ H2 fun u H3 => ∃ (a : Addr) (xs : List V) (m : Nat), x = .ref a ∧ u = .int m ∧ SqL K H3 a xs ∧ p ≤ xs.length ∧ 0 < m ∧
  ∀ q, H3 q = none → Q (.ref q) (upd H3 q (.lst (everyV xs p m)))
section
variable {X : Cx}
theorem pe_sliceS {e lo st : Expr} {te tl ts : TE} {pos p2 : Pos} (he : PE X e te) (hl : PE X lo tl) (hs : PE X st ts) : PE X (.Subscript e (.Slice (some lo) none (some st) p2) pos) (tSlS X.K te tl ts) := by
  refine ⟨fun pins s σ H Q I h => Subscript_ (thn (he.run pins s σ H _ I h) fun v s1 ⟨x, H1, I1, r1, q1⟩ => ?_)⟩
  refine wpAny_Slice ?_
  rw [evalPart_some, evalPart_none, evalPart_some]
  refine thn (hl.run pins s1 σ H1 _ I1 q1) fun vl s2 ⟨l, H2, I2, rl, p, el, q2⟩ => ?_
  subst el
  obtain ⟨tp, rfl⟩ := rl
  refine wpAny_pure (thn (hs.run pins s2 σ H2 _ I2 q2) fun vm s3 ⟨u, H3, I3, ru, a, xs, m, ex, eu, hx, hp, hm, q3⟩ => ?_)
  subst ex
  subst eu
  obtain ⟨tm, rfl⟩ := ru
  obtain rfl : v = Value.ref a := r1
  have I4 : Inv X pins σ H3 { s3 with heap := s3.heap.push { cls := .type "slice", data := .fields #[.int p tp, .none, .int m tm] } } := I3.kept (t' := s3.toks) fun b ob q => Heap.get?_push_of_some _ q
  obtain ⟨its, rv, ht, hz⟩ := I4.list hx
  have hlen := rv.length
  refine tail_any (ops := [.ref a, .ref s3.heap.objs.size]) (T := "list") ht.isList.typeIs slot_list_getitem.lookup ?_ (by with_unfolding_all rfl)
  have isl : ({ s3 with heap := s3.heap.push { cls := .type "slice", data := .fields #[.int p tp, .none, .int m tm] } } : Shared).heap.IsSliceOf s3.heap.objs.size (.int p tp) .none (.int m tm) := Heap.IsSliceOf.new ..
  refine wpAny_getItem_list_slice ht.isList isl (.int _ _) .none (.int _ _) (by intro z; have := Option.some.inj z; omega) ?_ (by rw [List.size_toArray]; omega)
  rw [slicePick_every its p m hm (by omega)]
  refine ⟨.ref _, _, I4.laid (t' := s3.toks) (o := .lst (everyV xs p m)) (fun b ob q => Heap.get?_push_of_some _ q) (Nat.le_refl _) ?_, rfl, q3 _ (I4.hok.fresh (Nat.le_refl _))⟩
  refine ⟨Nat.le_trans (every_length xs p m hm) hz, _, 0, ?_, Heap.get?_push_size _ rfl⟩
  unfold everyV
  rw [hlen]
  have := Vals.pick rv ((List.range ((its.length - p + m - 1) / m)).map fun i => p + i * m)
  rw [List.filterMap_map] at this
  exact this
end
end My
namespace My
open PySem PySem.Spec PyProof.Rows L2
/-! ### A COMPREHENSION WHOSE ELEMENT MAY LET A CALLEE'S EXCEPTION OUT -/
/-- the block's context, the exceptions of its calls wished by W -/
abbrev blkX (X : Cx) (W : XK) (s : Shared) (H : Hp) (sc : Scope) (ce : Env) (fp : List Addr) : Cx :=
  (X.blk s H sc ce fp).wish fun u s' => ∃ (pins : List (Addr × Obj)) (σ : L2.St) (H1 : Hp) (s1 : Shared), Inv (X.blk s H sc ce fp) pins σ H1 s1 ∧ L2.CX X.prog X.w X.stack H1 s1 W u s'
theorem passB {X : Cx} {W : XK} {s : Shared} {H : Hp} {sc : Scope} {ce : Env} {fp : List Addr} : Passes (L2.CX X.prog X.w) (blkX X W s H sc ce fp) W :=
  fun pins σ H1 s1 _ _ I c => ⟨pins, σ, H1, s1, I.unwish, c⟩
section
variable {X : Cx} {W : XK} {s : Shared} {H H1 : Hp} {sc : Scope} {ce : Env} {fp : List Addr} {pins pins1 : List (Addr × Obj)} {σ σ1 : L2.St} {s1 s' : Shared} {u : Value} {use : Option (Value → Sem Unit)} {Qf : Value → Shared → Prop} {D : Value}
/-- the exception leaves the block: its names are let go, it flies on in the def's own frame -/
theorem block_out (tk : Takes X fun c d _ H => W c d H) (hs : X.stack = X.env :: X.outer) (hf : X.env.frame = some X.env.locals) (hcf : ce.frame = X.env.frame)
    (hL : ce.locals = s.heap.objs.size) (I0 : Inv X pins σ H s) (hfp : ∀ b ∈ fp, FpOk X pins H b ∧ b < s.heap.objs.size)
    (I : Inv (X.blk s H sc ce fp) pins1 σ1 H1 s1) (c : L2.CX X.prog X.w X.stack H1 s1 W u s') :
    notedBy (model X.prog X.w) X.A ce (fun e s2 => compEnds (model X.prog X.w) X.A X.xe use Qf D ce (.error e) s2) u s' := by
  obtain ⟨a, B, H2, cls, d, rfl, fl, hok, ub, na, os, ag, w⟩ := c
  have hfr : X.A.frames = some (X.env :: X.outer) := by rw [I0.ok.frames, hs]
  have hbase : Un (frs X.stack) fp H H1 s.heap s1.heap := I.base
  have hos : s1.os = s.os := I.os
  -- the block's own object
  have frLt : ∀ b ∈ frs X.stack, b < s.heap.objs.size := fun b hb => by
    obtain ⟨_, o, ho, _⟩ := I0.stack.mem hb
    exact Heap.lt_size ho
  have cNf : ce.locals ∉ frs X.stack := fun hb => by
    have := frLt _ hb
    rw [hL] at this
    exact Nat.lt_irrefl _ this
  have cH1 : H1 ce.locals = none := I.free
  obtain ⟨m1, ns1, _⟩ := I.loc
  have ns1 : s1.heap.Ns ce.locals m1 := ns1
  obtain ⟨oC, es, ep, hoC, hdC, rC⟩ := id ns1
  have bC : B.get? ce.locals = some oC := ub.keep _ _ hoC cH1 cNf
  have cH2 : H2 ce.locals = none := ub.free _ _ hoC cH1
  show wpAny _ _ (noteFrame (.ref a) ce) _ _ s'
  rw [noteFrame_env _ hcf]
  rw [hs] at fl
  refine HandSPX.looks_onZ Zc.steady hfr hf fl fun h1 hH up1 => ?_
  have k1 : h1.get? ce.locals = some oC := hH.1 _ _ bC
  show compEnds (model X.prog X.w) X.A X.xe use Qf D ce (.error (.ref a)) { s' with heap := h1 }
  suffices CompFails (model X.prog X.w) X.A X.xe ce (.ref a) { s' with heap := h1 } by cases use <;> exact this
  refine ⟨m1, ⟨oC, es, ep, k1, hdC, rC⟩, fun h2 m2 hn2 sb => ?_⟩
  have sb2 : ∀ b, b ≠ ce.locals → h2.get? b = h1.get? b := fun b hb => sb.2 b hb
  -- the ground without the block's object
  obtain ⟨B2, g1, g2⟩ := restrict B fun b => decide (b ≠ ce.locals)
  have gk : ∀ b, b ≠ ce.locals → B2.get? b = B.get? b := fun b hb => g1 b (decide_eq_true hb)
  have gC : B2.get? ce.locals = none := g2 _ (by simp)
  have gB : ∀ b o, B2.get? b = some o → b ≠ ce.locals ∧ B.get? b = some o := fun b o e => by
    by_cases hb : b = ce.locals
    · rw [hb, gC] at e
      cases e
    · exact ⟨hb, (gk b hb).symm.trans e⟩
  obtain ⟨b1, b0, f1, oe, vs, T, oT, ts, he, hz, hd, hv, hnT, hTe, hT, hdT, h3⟩ := hH
  have aC : a ≠ ce.locals := fun z => by
    rw [z, k1] at he
    have := Option.some.inj he
    subst this
    rw [hdC] at hd
    cases hd
  have TC : T ≠ ce.locals := fun z => by
    rw [z, k1] at hT
    have := Option.some.inj hT
    subst this
    rw [hdC] at hdT
    cases hdT
  have st2 : B2.StaysIn h2 := fun b o e => by
    obtain ⟨hb, e'⟩ := gB b o e
    exact (sb2 b hb).trans (b1 b o e')
  have nB2 : ∀ b, B.get? b = none → B2.get? b = none := fun b e => by
    cases q : B2.get? b with
    | none => rfl
    | some o =>
      rw [(gB b o q).2] at e
      cases e
  have ff2 : h2.FunFrames B2 (X.env :: X.outer) := by
    have z : h2.FunFrames B (X.env :: X.outer) := Heap.FunFrames.sameBut sb hn2 f1
    refine funFrames_none z fun L hL' => nB2 L ?_
    exact (f1.mem hL').1
  have held : HandSPX.HeldZ B2 (X.env :: X.outer) a (Zc cls d) X.env.locals h2 :=
    ⟨st2, nB2 a b0, ff2, oe, vs, T, oT, ts, (sb2 a aC).trans he, hz, hd, hv, nB2 T hnT, hTe, (sb2 T TC).trans hT, hdT, h3⟩
  show wpAny _ _ (PySem.passOn "comprehension.variables-let-go" (.ref a) ce : Sem Value) _ _ { s' with heap := h2 }
  unfold PySem.passOn
  refine wpAny_bind (wpAny_field ((sb2 a aC).trans he) hd hv ?_)
  rw [if_neg (show ¬ ((Value.ref T == Value.none) = true) from by simp), hcf, hf]
  refine wpAny_bind (HandSPX.setFlight_onZ (s := { s' with heap := h2 }) held fun h3 held3 up3 => wpAny_throw ?_)
  -- in the def's own air
  obtain ⟨G, p1, p2⟩ := restrict h3 fun b => (B2.get? b).isSome || decide (b ∈ frs X.stack)
  have st3 : B2.StaysIn h3 := held3.1
  have pB : ∀ b o, B2.get? b = some o → G.get? b = some o := fun b o e => by
    rw [p1 b (by simp [e])]
    exact st3 b o e
  have pF : ∀ b, b ∈ frs X.stack → G.get? b = h3.get? b := fun b hb => p1 b (by simp [hb])
  have og : ∀ b o, G.get? b = some o → h3.get? b = some o ∧ ((B2.get? b).isSome = true ∨ b ∈ frs X.stack) := fun b o e => by
    cases q : ((B2.get? b).isSome || decide (b ∈ frs X.stack)) with
    | false =>
      rw [p2 b q] at e
      cases e
    | true =>
      rw [p1 b q] at e
      exact ⟨e, by simpa [Bool.or_eq_true] using q⟩
  have slots : ∀ b o, s1.heap.get? b = some o → b ∈ frs X.stack → ∃ sl, G.get? b = some { o with slots := sl } := fun b o e hb => by
    obtain ⟨_, o', e', hnf⟩ := I.stack.mem hb
    rw [e] at e'
    cases e'
    obtain ⟨sl1, q1⟩ := ub.slot b o e hb
    obtain ⟨sl2, q2⟩ := up1 b _ q1 hnf
    have q2' : h2.get? b = some { o with slots := sl2 } := (sb2 b fun z => cNf (z ▸ hb)).trans q2
    obtain ⟨sl3, q3⟩ := up3 b _ q2' hnf
    exact ⟨sl3, (pF b hb).trans q3⟩
  have neC : ∀ b o, s.heap.get? b = some o → b ≠ ce.locals := fun b o e z => by
    have := Heap.lt_size e
    rw [z, hL] at this
    exact Nat.lt_irrefl _ this
  have un : Un (frs X.stack) fp H H2 s.heap G := by
    refine ⟨fun b o e n hb hx => ?_, fun b o e n hb hx => ?_, fun b o e n hx => ?_, fun b o e hx => ?_, fun b xs e => ub.tups b xs (hbase.tups b xs e), fun b o xs e => ub.frzs b o xs (hbase.frzs b o xs e), fun b ps e => ?_⟩
    · exact pB b o ((gk b (neC b o e)).trans (ub.keep b o (hbase.keep b o e n hb hx) (hbase.free b o e n hx) hb))
    · obtain ⟨sl, e1⟩ := hbase.slot b o e n hb hx
      obtain ⟨sl', e2⟩ := slots b _ e1 hb
      exact ⟨sl', e2⟩
    · obtain ⟨o', e1⟩ := hbase.there b o e hx
      exact ub.free b o' e1 (hbase.free b o e n hx)
    · obtain ⟨o', e1⟩ := hbase.there b o e hx
      by_cases hb : b ∈ frs X.stack
      · obtain ⟨sl, e2⟩ := slots b o' e1 hb
        exact ⟨_, e2⟩
      · obtain ⟨o2, e2⟩ := ub.there b o' e1 hb
        exact ⟨o2, pB b o2 ((gk b (neC b o e)).trans e2)⟩
    · obtain ⟨n1, e1⟩ := hbase.tbls b ps e
      obtain ⟨n2, e2⟩ := ub.tbls b _ e1
      exact ⟨n1 ++ n2, by rw [e2, Array.append_assoc]⟩
  have hokG : HOk X.prog X.w H2 G := fun b o q => (hok b o q).stay (fun b' o' hb' e' => pB b' o' ((gk b' fun z => by
      rcases hb' with hb' | hb'
      · rw [← hb', z, cH2] at q
        cases q
      · rw [z, cH2] at hb'
        cases hb').trans e')) (fun _ r => r) fun _ _ r => r
  have J : Inv X pins σ H2 { s1 with heap := G, gens := s'.gens, drawn := s'.drawn, toks := s'.toks } :=
    I0.call' (ch := fp) hos un hokG ag fun b hb => ⟨(hfp b hb).1.2.2.2.1, (hfp b hb).1.2.1, (hfp b hb).1.2.2.2.2.1, (hfp b hb).1.2.2.2.2.2⟩
  refine tk _ _ ⟨a, B2, { s1 with heap := G, gens := s'.gens, drawn := s'.drawn, toks := s'.toks }, pins, σ, H2, cls, d, rfl, J, fun b o e hb => ?_, Heap.UpToSlots.of_keeps fun b o e => (og b o e).1, .inr (.inr ?_), na, os, ag, w⟩
  · obtain ⟨e', hh⟩ := og b o e
    rcases hh with hh | hh
    · obtain ⟨o', q⟩ := Option.isSome_iff_exists.mp hh
      have z := st3 b o' q
      rw [e'] at z
      cases z
      exact q
    · exact absurd hh hb
  · rw [hs]
    exact held3
end
end My
namespace My
open PySem PySem.Spec PyProof.Rows L2
section
variable {X : Cx}
theorem lcX_core {pins : List (Addr × Obj)} {s : Shared} {σ : L2.St} {H : Hp} {Q : VK} {W : XK} {elt tg iter : Expr} {ifs : List Expr} {scope : Scope} {own : List (Str × Nat)} {pos pos' : Pos} {wi : TI} {g : TG} {tt : TT} {te : TE} {use : Option (Value → Sem Unit)} {Qf : Value → Shared → Prop}
    (tk : Takes X fun c d _ H => W c d H) (hst : X.stack = X.env :: X.outer) (hfm : X.env.frame = some X.env.locals)
    (hc : X.calm = true) (hN : X.N.Nodup) (I : Inv X pins σ H s) (hi : PI X tg iter wi) (ok : BlkOk X.N X.env.scope scope own)
    (hg : ∀ (s : Shared) (H : Hp) (C : Addr) (cl : List (Str × Addr)) (fp : List Addr), PG (X.blk s H scope (compEnvC scope cl C X.env) fp) tg g)
    (ht : ∀ (s : Shared) (H : Hp) (C : Addr) (cl : List (Str × Addr)) (fp : List Addr), PTs (X.blk s H scope (compEnvC scope cl C X.env) fp) ifs tt)
    (he : ∀ (s : Shared) (H : Hp) (C : Addr) (cl : List (Str × Addr)) (fp : List Addr), PE (blkX X W s H scope (compEnvC scope cl C X.env) fp) elt te) (hs : ∀ x, foldedSetIterable iter X.env x = pure x)
    (h : tLc wi g tt te (own.map (·.2)) σ H Q)
    (hRR : ∀ D C s' m H' (ce : Env), ce.locals = C → Inv X pins σ H' s' → Q (.ref D) H' → s'.heap.Ns C m → FpOk X pins H' C → compEnds (model X.prog X.w) X.A X.xe use Qf (.ref D) ce (.ok .next) s') :
    wpAny (model X.prog X.w) X.A (comprehension (.ListComp elt [⟨tg, iter, ifs, 0⟩] scope pos) scope X.env pos' (newList []) false (eval iter X.env) use) Qf X.xe s := by
  have free : ∀ y ∈ scope.names, y.2 = .free → ∃ c, X.env.cells.lookup y.1 = some c := fun y hy e => (ok.free y hy e).elim (fun k => I.ok.has _ (.inl k)) fun k => I.ok.has _ (.inr k)
  refine comprehension_at (use := use) rfl hs (closure_ok free) ok.kind (fun y hy e => by rw [ok.uniq y hy, e]) (thn (hi.run pins s σ H _ I h) fun xv s1 hx => thn hx fun itv s2 h2 => ?_)
  obtain ⟨it, fp, tn, J, H2, e, I2, T, st2, f2, q⟩ := h2
  subst e
  refine wpAny_newObj_type (newEnv_comp ?_) (by show 0 ≤ sizeLine; decide)
  obtain ⟨D, hD⟩ : ∃ D, s2.heap.objs.size = D := ⟨_, rfl⟩
  rw [hD]
  have nD : H2 D = none := I2.hok.fresh (Nat.le_of_eq hD)
  obtain ⟨M, ⟨m0, w0⟩, turn⟩ := q D nD
  -- the new list, the iterator's objects beside it
  obtain ⟨s3, hs3⟩ : ∃ s3 : Shared, ({ s2 with heap := s2.heap.push { cls := .type "list", data := .seq ([] : List Value).toArray } } : Shared) = s3 := ⟨_, rfl⟩
  have I3 : Inv X pins σ (upd H2 D (.lst [])) s3 := by
    rw [← hs3]
    refine I2.laid (t' := s2.toks) (fun b o z => Heap.get?_push_of_some _ z) (Nat.le_of_eq hD) ⟨Nat.zero_le _, [], 0, .nil, ?_⟩
    rw [← hD]
    exact Heap.get?_push_size _ rfl
  have e3 : s3.heap = s2.heap.push { cls := .type "list", data := .seq ([] : List Value).toArray } := by rw [← hs3]
  have fpLt : ∀ b ∈ fp, b < s2.heap.objs.size := fun b hb => let ⟨_, z, _⟩ := T.obj _ _ st2 b hb; Heap.lt_size z
  have f3 : ∀ b ∈ fp, FpOk X pins (upd H2 D (.lst [])) b ∧ b < s3.heap.objs.size := fun b hb => by
    have z := fpLt b hb
    refine ⟨⟨?_, (f2 b hb).2⟩, by rw [e3, Heap.size_push]; exact Nat.lt_succ_of_lt z⟩
    rw [upd_ne (by rw [← hD]; exact Nat.ne_of_lt z)]
    exact (f2 b hb).1
  have st3 : tn 0 s3.heap := T.keep _ _ _ st2 fun b _ o z => by rw [e3]; exact Heap.get?_push_of_some _ z
  have I4 := block_start I3 ok hN f3
  obtain ⟨cl, hcl⟩ : ∃ cl, cellsFrom (s3.heap.objs.size + 1) scope.names (cloFrom X.env.cells scope.names []) = cl := ⟨_, rfl⟩
  rw [hcl] at I4
  have pg := hg s3 (upd H2 D (.lst [])) s3.heap.objs.size cl fp
  have pt := ht s3 (upd H2 D (.lst [])) s3.heap.objs.size cl fp
  have pe := he s3 (upd H2 D (.lst [])) s3.heap.objs.size cl fp
  have start : ∀ ce : Env, ce = compEnvC scope cl s3.heap.objs.size X.env → ∀ s4 : Shared, ({ s3 with heap := pushCells (s3.heap.push { cls := .type "dict", data := .dict #[] }) scope.names } : Shared) = s4 →
      codeAny (model X.prog X.w) X.A (.compStart (.ListComp elt [⟨tg, iter, ifs, 0⟩] scope pos) 0 (.ref it) (.ref D) ce) (compEnds (model X.prog X.w) X.A X.xe use Qf (.ref D) ce) s4 := by
    intro ce hce s4 hs4
    rw [← hce, hs4] at I4
    rw [← hce] at pg pt pe
    have cL : ce.locals = s3.heap.objs.size := by rw [hce]; rfl
    have cF : ce.frame = X.env.frame := by rw [hce]; rfl
    obtain ⟨H3, hH3⟩ : ∃ H3, upd H2 D (.lst []) = H3 := ⟨_, rfl⟩
    rw [hH3] at I3 I4 pg pt pe w0 f3
    have st4 : tn 0 s4.heap := T.keep _ _ _ st3 fun b _ o z => by rw [← hs4]; exact pushCells_keeps _ _ _ _ (Heap.get?_push_of_some _ z)
    have stat : ∀ {σ' : L2.St} {H' : Hp} {s' : Shared}, Inv (X.blk s3 H3 scope ce fp) [] σ' H' s' → (∀ b ∈ fp, H' b = none) → ∀ b ∈ fp, FpOk (X.blk s3 H3 scope ce fp) [] H' b := fun {σ' H' s'} I' hn b hb =>
      ⟨hn b hb, (I'.ok.exf b hb).1, I'.ok.exfs b hb, .inl hb, (I'.ok.exf b hb).2, fun p hp => absurd (show p ∈ ([] : List (Addr × Obj)) ++ [] from hp) (by simp)⟩
    have loop : codeAny (model X.prog X.w) X.A (.compLoop (.ListComp elt [⟨tg, iter, ifs, 0⟩] scope pos) 0 (.ref it) (.ref D) ce) (compEnds (model X.prog X.w) X.A X.xe use Qf (.ref D) ce) s4 := by
      refine compLoop_any (fun n s' => ∃ i H', Inv (X.blk s3 H3 scope ce fp) [] (wipe σ (own.map (·.2))) H' s' ∧ tn i s'.heap ∧ (∀ b ∈ fp, H' b = none) ∧ M i n H') ?_ m0 ⟨0, H3, I4, st4, fun b hb => (f3 b hb).1.1, w0⟩
      rintro n s5 ⟨i, H5, I5, st5, n5, w5⟩
      rcases turn i n H5 w5 with ⟨stop, qq⟩ | ⟨go, Nx, hNx, step⟩
      · refine thnF (T.done (X.blk s3 H3 scope ce fp) rfl rfl rfl hc i [] s5 _ H5 (fun _ _ => False) I5 (stat I5 n5) st5 stop) fun r s6 ⟨hr, I6⟩ => ?_
        subst hr
        have I7 : Inv X pins σ H5 s6 := I3.call' (ch := fp) I6.os I6.base I6.hok I6.bare fun b hb => ⟨(f3 b hb).1.2.2.2.1, (f3 b hb).1.2.1, (f3 b hb).1.2.2.2.2.1, (f3 b hb).1.2.2.2.2.2⟩
        have nC : H5 s3.heap.objs.size = none := cL ▸ (show H5 ce.locals = none from I6.free)
        obtain ⟨m, hn, _⟩ := I6.loc
        have hn : s6.heap.Ns s3.heap.objs.size m := cL ▸ (show s6.heap.Ns ce.locals m from hn)
        exact hRR D s3.heap.objs.size s6 m H5 ce cL I7 qq hn (I3.fpOk (Nat.le_refl _) nC)
      · refine thnF (T.item (X.blk s3 H3 scope ce fp) rfl rfl rfl hc i [] s5 _ H5 (fun _ _ => False) I5 (stat I5 n5) st5 go) fun r s6 ⟨u, hr, h6⟩ => ?_
        subst hr
        refine thnF h6 fun _ s7 ⟨x, H7, I7, r7, y7, st7, n7⟩ => ?_
        refine thnF (pg.run _ s7 _ H7 x u _ (I7.pinned (stat I7 n7) (T.obj _ _ st7)) r7 (step x H7 y7)) fun _ s8 ⟨σ8, H8, I8, hw8, q8⟩ => ?_
        refine thnF (pt.run _ s8 σ8 H8 _ I8 q8) fun b s9 ⟨H9, I9, q9⟩ => ?_
        have fin : ∀ {s' : Shared} {H' : Hp}, Inv (X.blk s3 H3 scope ce fp) ([] ++ pinsAt fp s7.heap) σ8 H' s' → Nx H' → ∃ m, m < n ∧ ∃ i H', Inv (X.blk s3 H3 scope ce fp) [] (wipe σ (own.map (·.2))) H' s' ∧ tn i s'.heap ∧ (∀ b ∈ fp, H' b = none) ∧ M i m H' := fun {s' H'} I' nx => by
          obtain ⟨m', hm, w'⟩ := hNx H' nx
          have pin' : ∀ b ∈ fp, ∀ o, s7.heap.get? b = some o → s'.heap.get? b = some o ∧ H' b = none := fun b hb o z =>
            let y := I'.pin (b, o) (List.mem_append_right _ (List.mem_append_right _ (mem_pinsAt hb z)))
            ⟨y.1, y.2.1⟩
          refine ⟨m', hm, i + 1, H', (I'.unpinned (pins := [])).weak (by rw [← hw8, wipe_length]) (fun j v z => ?_), T.keep _ _ _ st7 fun b hb o z => (pin' b hb o z).1, fun b hb => ?_, w'⟩
          · rw [← hw8] at z
            exact (wipe_some z).1
          · obtain ⟨o, z, _⟩ := T.obj _ _ st7 b hb
            exact (pin' b hb o z).2
        cases b with
        | false =>
          simp only [Bool.false_eq_true, if_false] at q9 ⊢
          exact fin I9 q9
        | true =>
          simp only [if_true] at q9 ⊢
          refine wpAny_mono (pe.run _ s9 σ8 H9 _ (I9.wish _) q9) (fun z s10 ⟨yv, H10, I10, r10, acc, hD10, hz10, nx⟩ => ?_) fun u' s' ⟨pins1, σ1, H1, s1, J1, c⟩ => ?_
          · exact app_ok (X := X.blk s3 H3 scope ce fp) I10.unwish hD10 hz10 r10 fun s11 I11 => fin I11 nx
          · exact block_out (use := use) (Qf := Qf) (D := .ref D) tk hst hfm cF cL I3 f3 J1 c
    exact codeAny_compStart_list loop (T.self X.A 0 _ _ _ st4 loop)
  have fin := start _ rfl _ rfl
  rw [← hs3] at fin hcl
  rw [← hcl] at fin
  exact fin
end
end My
namespace My
open PySem PySem.Spec PyProof.Rows L2
section
variable {X : Cx}
/-- [e for x in xs ..], the element's calls may raise: as a value -/
theorem pe_lcX {W : XK} {elt tg iter : Expr} {ifs : List Expr} {scope : Scope} {own : List (Str × Nat)} {pos : Pos} {wi : TI} {g : TG} {tt : TT} {te : TE} (tk : Takes X fun c d _ H => W c d H) (hst : X.stack = X.env :: X.outer) (hfm : X.env.frame = some X.env.locals)
    (hc : X.calm = true) (hN : X.N.Nodup) (hi : PI X tg iter wi) (ok : BlkOk X.N X.env.scope scope own)
    (hg : ∀ (s : Shared) (H : Hp) (C : Addr) (cl : List (Str × Addr)) (fp : List Addr), PG (X.blk s H scope (compEnvC scope cl C X.env) fp) tg g)
    (ht : ∀ (s : Shared) (H : Hp) (C : Addr) (cl : List (Str × Addr)) (fp : List Addr), PTs (X.blk s H scope (compEnvC scope cl C X.env) fp) ifs tt)
    (he : ∀ (s : Shared) (H : Hp) (C : Addr) (cl : List (Str × Addr)) (fp : List Addr), PE (blkX X W s H scope (compEnvC scope cl C X.env) fp) elt te) (hs : ∀ x, foldedSetIterable iter X.env x = pure x := by intro _; rfl) :
    PE X (.ListComp elt [⟨tg, iter, ifs, 0⟩] scope pos) (tLc wi g tt te (own.map (·.2))) := by
  refine ⟨fun pins s σ H Q I h => ?_⟩
  rw [eval_ListComp]
  refine lcX_core tk hst hfm hc hN I hi ok hg ht he hs h fun D C s' m H' ce eC I' q hn f => ?_
  subst eC
  refine ⟨m, hn, fun h'' sb => ?_⟩
  obtain ⟨f0, f1, f2, f3, f4, f5⟩ := f
  exact ⟨.ref D, H', I'.turned (t' := s'.toks) (fun b o hb e => (sb.2 b hb).trans e) f0 f1 f3 f4 f5, rfl, q⟩
/-- y = [e for x in xs ..] on one line, y a local -/
theorem ps_setLcX {W : XK} {i : Nat} {y : Str} {py : Pos} {elt tg iter : Expr} {ifs : List Expr} {scope : Scope} {own : List (Str × Nat)} {pos spos : Pos} {wi : TI} {g : TG} {tt : TT} {te : TE} (tk : Takes X fun c d _ H => W c d H) (hst : X.stack = X.env :: X.outer) (hfm : X.env.frame = some X.env.locals)
    (hc : X.calm = true) (hN : X.N.Nodup) (hy : X.N[i]? = some y) (hyl : X.env.scope.names.lookup y = some .local)
    (hsw : swapsWith (.ListComp elt [⟨tg, iter, ifs, 0⟩] scope pos) (some (.Name y py)) spos.line X.env = pure true) (hi : PI X tg iter wi) (ok : BlkOk X.N X.env.scope scope own)
    (hg : ∀ (s : Shared) (H : Hp) (C : Addr) (cl : List (Str × Addr)) (fp : List Addr), PG (X.blk s H scope (compEnvC scope cl C X.env) fp) tg g)
    (ht : ∀ (s : Shared) (H : Hp) (C : Addr) (cl : List (Str × Addr)) (fp : List Addr), PTs (X.blk s H scope (compEnvC scope cl C X.env) fp) ifs tt)
    (he : ∀ (s : Shared) (H : Hp) (C : Addr) (cl : List (Str × Addr)) (fp : List Addr), PE (blkX X W s H scope (compEnvC scope cl C X.env) fp) elt te) (hs : ∀ x, foldedSetIterable iter X.env x = pure x := by intro _; rfl) :
    PS X (.Assign [.Name y py] (.ListComp elt [⟨tg, iter, ifs, 0⟩] scope pos) spos) (tAsg (tLc wi g tt te (own.map (·.2))) (gName i)) := by
  refine ⟨fun pins s σ H D I h => ?_⟩
  rw [exec_Assign_Name_used _ _ _ _ hsw]
  refine wpAny_bind (wpAny_standAt (wpAny_bind ?_))
  show wpAny _ X.A (do let _ ← comprehension (.ListComp elt [⟨tg, iter, ifs, 0⟩] scope pos) scope X.env (firstIterPos [⟨tg, iter, ifs, 0⟩] pos) (newList []) false (eval iter X.env) (some (assign (.Name y py) X.env))) _ _ s
  have h : tLc wi g tt te (own.map (·.2)) σ H (fun x H1 => gName i x σ H1 D.nx) := h
  refine wpAny_bind (thn (lcX_core (Qf := fun _ s' => SP X pins D .next s') tk hst hfm hc hN I hi ok hg ht he hs h fun L C s' m H' ce eC I' q hn f => ?_) fun _ s' hq => wpAny_pure (wpAny_pure hq))
  subst eC
  show wpAny _ _ (assign (.Name y py) X.env (.ref L)) _ _ _
  refine wpAny_assign_Name (store_ok2 (v := V.ref L) I' hN hy (.inl hyl) rfl (fun s2 I2 ⟨a, sb, ha⟩ => ?_) (.inr hyl))
  obtain ⟨f0, f1, f2, f3, f4, f5⟩ := f
  have nCa : ce.locals ≠ a := ha.elim (fun z => z ▸ f1) fun z e => f4 y a z e.symm
  exact ⟨m, hn.sameBut sb nCa, fun h3 sb3 => ⟨_, H', I2.turned (t' := s2.toks) (fun b o hb e => (sb3.2 b hb).trans e) f0 f1 f3 f4 f5, q⟩⟩
end
end My
namespace My
open PySem PySem.Spec PyProof.Rows L2
open VamacBase (Deed Prog Table Reader)

/-! ### names of the top -/
section
variable {X : Cx}
theorem pe_cst {x : Str} {v : Int} {pos : Pos} (hg : Gl X x) (h : ∃ t, X.mg x = some (.int v t)) (hd : (x == ("__debug__" : Str)) = false := by decide) : PE X (.Name x pos) (tC (.int v)) :=
  let ⟨_, e⟩ := h
  pe_glob hg e ⟨_, rfl⟩ hd
theorem pe_tupc {x : Str} {xs : List Int} {pos : Pos} (hg : Gl X x) (t : TupI X.K X.mg x xs) (hd : (x == ("__debug__" : Str)) = false := by decide) : PE X (.Name x pos) (tC (.ref t.a)) := pe_glob (v := V.ref t.a) hg t.g rfl hd
end
section
variable {K : PySem.W.Frag} {mg : Str → Option Value} (T : Txt K mg)
theorem Txt.mk_Numbers : Mk K T.Numbers.C T.Numbers_init.f := ⟨T.Numbers.makes, T.Numbers_init.m.at_, T.Numbers_init.m.fn, T.Numbers.kp⟩
theorem Txt.mk_Span : Mk K T.Span.C T.Span_init.f := ⟨T.Span.makes, T.Span_init.m.at_, T.Span_init.m.fn, T.Span.kp⟩
theorem Txt.mk_Table : Mk K T.Table.C T.Table_init.f := ⟨T.Table.makes, T.Table_init.m.at_, T.Table_init.m.fn, T.Table.kp⟩
theorem Txt.mk_Desk : Mk K T.Desk.C T.Desk_init.f := ⟨T.Desk.makes, T.Desk_init.m.at_, T.Desk_init.m.fn, T.Desk.kp⟩
end

/-! ### a reading's first step -/
section
variable {te : TE} {g : TG} {u t t1 t2 : TS} {D : Ends} {σ : L2.St} {H : Hp} {tt : TT} {i : Nat}
theorem r_asg (h : te σ H fun x H1 => g x σ H1 (u D)) : tSeq (tAsg te g) u D σ H := h
theorem r_set (h : te σ H fun x H1 => u D (σ.set i (some x)) H1) : tSeq (tAsg te (gName i)) u D σ H := h
theorem r_drop (h : te σ H fun _ H1 => u D σ H1) : tSeq (tDrop te) u D σ H := h
theorem r_ret (h : te σ H D.rt) : tRet te D σ H := h
theorem r_if (h : tt σ H fun b H1 => if b = true then t1 { D with nx := u D } σ H1 else t2 { D with nx := u D } σ H1) : tSeq (tIfS tt t1 t2) u D σ H := h
theorem r_next (h : D.nx σ H) : tNext D σ H := h
theorem r_if1 (h : tt σ H fun b H1 => if b = true then t1 D σ H1 else t2 D σ H1) : tIfS tt t1 t2 D σ H := h
end

/-! ### rules with the kept heap by name: a block's reading must not name the block -/
section
variable {X : Cx} {K : PySem.W.Frag}
theorem ix_listK (hK : X.K = K := by rfl) : IxR X (rIxL K) := by
  subst hK
  exact ix_list
theorem ix_tupK (hK : X.K = K := by rfl) : IxR X (rIxT K) := by
  subst hK
  exact ix_tup
theorem sl_listK (hK : X.K = K := by rfl) : SlR X (rSlL K) := by
  subst hK
  exact sl_list
theorem sl_tupK (hK : X.K = K := by rfl) : SlR X (rSlT K) := by
  subst hK
  exact sl_tup
theorem op_eqDK (hu : X.A.units + 64 < cLine) (hK : X.K = K := by rfl) : OpR X (compareOp .Eq) (rEqD K) := by
  subst hK
  exact op_eqD hu
theorem op_neDK (hu : X.A.units + 64 < cLine) (hK : X.K = K := by rfl) : OpR X (compareOp .NotEq) (rNeD K) := by
  subst hK
  exact op_neD hu
theorem op_inK (hK : X.K = K := by rfl) : OpR X (compareOp .In) (rIn K false) := by
  subst hK
  exact op_in_seq
def rLen (K : PySem.W.Frag) : List V → Hp → VK → Prop := fun xs H Q => ∃ p ys, xs = [.ref p] ∧ (SqL K H p ys ∨ SqT K H p ys) ∧ Q (.int ys.length) H
theorem call_lenK (hK : X.K = K := by rfl) : CallR X (.builtin "len") (rLen K) := by
  subst hK
  exact call_len_seq
def rListOf (K : PySem.W.Frag) : List V → Hp → VK → Prop := fun xs H Q => ∃ p ys, xs = [.ref p] ∧ (SqL K H p ys ∨ SqT K H p ys) ∧ ∀ l, H l = none → Q (.ref l) (upd H l (.lst ys))
theorem call_listK (hK : X.K = K := by rfl) : CallR X (.type "list") (rListOf K) := by
  subst hK
  exact call_list_of
theorem cr_anyK (hc : X.calm = true) (hK : X.K = K := by rfl) : CallR X (.builtin "any") (rAny K) := by
  subst hK
  exact cr_any hc
theorem cr_allK (hc : X.calm = true) (hK : X.K = K := by rfl) : CallR X (.builtin "all") (rAll K) := by
  subst hK
  exact cr_all hc
theorem pe_fldK {e : Expr} {f : Str} {pos : Pos} {ta : TE} (he : PE X e ta) (hb : attributeBase e f X.env (eval e X.env) = eval e X.env) (hK : X.K = K := by rfl) : PE X (.Attribute e f pos) (tFld K ta f) := by
  subst hK
  exact pe_fld he hb
theorem pg_tupK {es : List Expr} {k : Nat} {t : TGs} {n : Nat} {pos : Pos} (hc : X.calm = true) (h : PGs X es t)
    (hn : (assignEach es X.env).length = n := by rfl) (hst : (assignEach es X.env).findIdx? (·.1) = none := by rfl) (hK : X.K = K := by rfl) : PG X (.Tuple es k pos) (gTup K n t) := by
  subst hK
  exact pg_tup hc h hn hst
theorem pe_sliceSK {e lo st : Expr} {te tl ts : TE} {pos p2 : Pos} (he : PE X e te) (hl : PE X lo tl) (hs : PE X st ts) (hK : X.K = K := by rfl) : PE X (.Subscript e (.Slice (some lo) none (some st) p2) pos) (tSlS K te tl ts) := by
  subst hK
  exact pe_sliceS he hl hs
theorem pi_listK {tg l : Expr} {tl : TE} (hl : PE X l tl) (hK : X.K = K := by rfl) : PI X tg l (iList K tl) := by
  subst hK
  exact pi_list hl
theorem pi_tupK {tg l : Expr} {tl : TE} (hl : PE X l tl) (hK : X.K = K := by rfl) : PI X tg l (iTup K tl) := by
  subst hK
  exact pi_tup hl
theorem pi_enumK {e : Expr} {ta : TA} {p pos tpos : Pos} {elts : List Expr} {kk : Nat} (hg : Gl X "enumerate") (hm : X.mg "enumerate" = none) (ha : PA X [e] ta) (hs : starEach [e] X.env = [(false, eval e X.env)] := by rfl) (hK : X.K = K := by rfl) :
    PI X (.Tuple elts kk tpos) (.Call (.Name "enumerate" p) [e] [] pos) (iEnum K ta) := by
  subst hK
  exact pi_enum hg hm ha hs
theorem ps_fldK {o value : Expr} {f : Str} {pos pos' : Pos} {ta tv : TE} (ha : PE X o ta) (hv : PE X value tv) (hs : swapsWith value (some (.Attribute o f pos')) pos.line X.env = pure false) (hK : X.K = K := by rfl) :
    PS X (.Assign [.Attribute o f pos'] value pos) (sFld K ta tv f) := by
  subst hK
  exact ps_fld ha hv hs
end

/-! ### the heap but for one object -/
/-- all that was tracked is as it was, but a -/
def But (a : Addr) (H H' : Hp) : Prop := ∀ b o, H b = some o → b ≠ a → H' b = some o
theorem But.refl (a : Addr) (H : Hp) : But a H H := fun _ _ h _ => h
theorem But.trans {a : Addr} {H H1 H2 : Hp} (x : But a H H1) (y : But a H1 H2) : But a H H2 := fun b o h n => y b o (x b o h n) n
theorem But.of {a : Addr} {H H' : Hp} (x : Same H H') : But a H H' := fun b o h _ => x b o h
theorem But.same {a : Addr} {H H' : Hp} (x : But a H H') (h : H a = none) : Same H H' := fun b o e => x b o e (ne_of_none e h)
theorem But.wr {a : Addr} {H : Hp} {o : HO} : But a H (upd H a o) := fun b o' e n => by rw [upd_ne n]; exact e
theorem Same.new {H : Hp} {p : Addr} {o : HO} (h : H p = none) : Same H (upd H p o) := fun b u e => by
  rw [upd_ne (ne_of_none e h)]
  exact e
theorem Same.mut {H H' : Hp} {p : Addr} {o : HO} (e : Same H H') (h : H p = none) : Same H (upd H' p o) := fun b u ha => by
  rw [upd_ne (ne_of_none ha h)]
  exact e b u ha
theorem But.new {a : Addr} {H H' : Hp} {p : Addr} {o : HO} (e : But a H H') (h : H' p = none) : But a H (upd H' p o) := e.trans (But.of (Same.new h))

/-! ### what is new in a heap -/
def New (H H' : Hp) : Hp := fun b => match H b with
  | none => H' b
  | some _ => none
theorem New.of {H H' : Hp} {b : Addr} {o : HO} (h : H b = none) (h' : H' b = some o) : New H H' b = some o := by
  unfold New
  rw [h]
  exact h'
theorem New.out {H H' : Hp} {b : Addr} {o : HO} (h : New H H' b = some o) : H b = none ∧ H' b = some o := by
  unfold New at h
  cases e : H b with
  | none => rw [e] at h; exact ⟨rfl, h⟩
  | some u => rw [e] at h; cases h
theorem New.sub {H H' : Hp} : Same (New H H') H' := fun _ _ h => (New.out h).2
/-- all that H knows, H' knows -/
def Dom (H H' : Hp) : Prop := ∀ b o, H b = some o → ∃ o', H' b = some o'
theorem Dom.refl {H : Hp} : Dom H H := fun _ o h => ⟨o, h⟩
theorem Dom.trans {H H1 H2 : Hp} (x : Dom H H1) (y : Dom H1 H2) : Dom H H2 := fun b o h => let ⟨o', h'⟩ := x b o h; y b o' h'
theorem Dom.of {H H' : Hp} (x : Same H H') : Dom H H' := fun _ o h => ⟨o, x _ o h⟩
theorem Dom.but {a : Addr} {H H' : Hp} (x : But a H H') (h : ∃ o, H' a = some o) : Dom H H' := fun b o e => by
  by_cases hb : b = a
  · rw [hb]
    exact h
  · exact ⟨o, x b o e hb⟩
theorem Dom.none {H H' : Hp} (x : Dom H H') {b : Addr} (h : H' b = none) : H b = none := by
  cases e : H b with
  | none => rfl
  | some o =>
    obtain ⟨o', h'⟩ := x b o e
    rw [h] at h'
    cases h'
/-- new behind more is new -/
theorem New.more {H H1 H2 : Hp} (x : Dom H H1) : Same (New H1 H2) (New H H2) := fun _ _ h => let ⟨h1, h2⟩ := New.out h; New.of (x.none h1) h2
/-- what is new stays so when an old one changes -/
theorem New.but {a : Addr} {H H1 H2 : Hp} (x : But a H1 H2) (ha : ∃ o, H a = some o) : Same (New H H1) (New H H2) := fun b o h => by
  obtain ⟨h1, h2⟩ := New.out h
  refine New.of h1 (x b o h2 fun z => ?_)
  obtain ⟨o', ha⟩ := ha
  rw [z, ha] at h1
  cases h1

/-! ### rows of things -/
/-- each of a list of things is told by a value -/
def All2 {A : Type} (R : A → V → Prop) (as : List A) (vs : List V) : Prop := as.length = vs.length ∧ ∀ (i : Nat) (a : A) (v : V), as[i]? = some a → vs[i]? = some v → R a v
section
variable {A : Type} {R S : A → V → Prop} {as bs : List A} {vs ws : List V}
theorem All2.nil : All2 R [] [] := ⟨rfl, fun i a v h => by simp at h⟩
theorem All2.get (h : All2 R as vs) {i : Nat} {a : A} (e : as[i]? = some a) : ∃ v, vs[i]? = some v ∧ R a v := by
  have hi : i < vs.length := by
    rw [← h.1]
    exact (List.getElem?_eq_some_iff.mp e).1
  exact ⟨vs[i], List.getElem?_eq_getElem hi, h.2 i a _ e (List.getElem?_eq_getElem hi)⟩
theorem All2.getV (h : All2 R as vs) {i : Nat} {v : V} (e : vs[i]? = some v) : ∃ a, as[i]? = some a ∧ R a v := by
  have hi : i < as.length := by
    rw [h.1]
    exact (List.getElem?_eq_some_iff.mp e).1
  exact ⟨as[i], List.getElem?_eq_getElem hi, h.2 i _ v (List.getElem?_eq_getElem hi) e⟩
theorem All2.mono (h : All2 R as vs) (f : ∀ a v, R a v → S a v) : All2 S as vs := ⟨h.1, fun i a v e e' => f a v (h.2 i a v e e')⟩
theorem All2.append (h : All2 R as vs) (g : All2 R bs ws) : All2 R (as ++ bs) (vs ++ ws) := by
  refine ⟨by rw [List.length_append, List.length_append, h.1, g.1], fun i a v e e' => ?_⟩
  by_cases hi : i < as.length
  · rw [List.getElem?_append_left hi] at e
    rw [List.getElem?_append_left (by rw [← h.1]; exact hi)] at e'
    exact h.2 i a v e e'
  · rw [List.getElem?_append_right (by omega)] at e
    rw [List.getElem?_append_right (by rw [← h.1]; omega), ← h.1] at e'
    exact g.2 _ a v e e'
theorem All2.one {a : A} {v : V} (h : R a v) : All2 R [a] [v] := ⟨rfl, fun i b u e e' => by
  cases i with
  | zero =>
    have e1 : a = b := by simpa using e
    have e2 : v = u := by simpa using e'
    subst e1 e2
    exact h
  | succ i => simp at e⟩
theorem All2.cons {a : A} {v : V} (h : R a v) (g : All2 R as vs) : All2 R (a :: as) (v :: vs) := All2.append (All2.one h) g
theorem All2.snoc {a : A} {v : V} (g : All2 R as vs) (h : R a v) : All2 R (as ++ [a]) (vs ++ [v]) := g.append (All2.one h)
theorem All2.pick (h : All2 R as vs) (L : List Nat) : All2 R (L.filterMap fun i => as[i]?) (L.filterMap fun i => vs[i]?) := by
  induction L with
  | nil => exact All2.nil
  | cons i L ih =>
    rw [List.filterMap_cons, List.filterMap_cons]
    by_cases hi : i < as.length
    · have hi' : i < vs.length := by rw [← h.1]; exact hi
      rw [List.getElem?_eq_getElem hi, List.getElem?_eq_getElem hi']
      exact All2.cons (h.2 i _ _ (List.getElem?_eq_getElem hi) (List.getElem?_eq_getElem hi')) ih
    · rw [List.getElem?_eq_none (by omega), List.getElem?_eq_none (by rw [← h.1]; omega)]
      exact ih
theorem All2.drop (h : All2 R as vs) (n : Nat) : All2 R (as.drop n) (vs.drop n) := ⟨by rw [List.length_drop, List.length_drop, h.1], fun i a v e e' => by
  rw [List.getElem?_drop] at e e'
  exact h.2 _ a v e e'⟩
theorem All2.take (h : All2 R as vs) (n : Nat) : All2 R (as.take n) (vs.take n) := ⟨by rw [List.length_take, List.length_take, h.1], fun i a v e e' => by
  by_cases hi : i < n
  · rw [List.getElem?_take_of_lt hi] at e e'
    exact h.2 _ a v e e'
  · rw [List.getElem?_eq_none (by rw [List.length_take]; omega)] at e
    cases e⟩
theorem All2.of_cons {a : A} (h : All2 R (a :: as) vs) : ∃ v ws, vs = v :: ws ∧ R a v ∧ All2 R as ws := by
  cases vs with
  | nil => have := h.1; simp at this
  | cons v ws => exact ⟨v, ws, rfl, h.2 0 a v rfl rfl, by have := h.1; simpa using this, fun i b u e e' => h.2 (i + 1) b u (by simpa using e) (by simpa using e')⟩
theorem All2.of_nil (h : All2 R [] vs) : vs = [] := List.eq_nil_of_length_eq_zero h.1.symm
end

theorem take_one {A : Type} {l : List A} {i : Nat} {x : A} (h : l[i]? = some x) : l.take (i + 1) = l.take i ++ [x] := by rw [List.take_succ, h]; rfl
theorem tyL {K : PySem.W.Frag} {H : Hp} {a : Addr} {xs : List V} (h : H a = some (.lst xs)) : tyV K "list" (.ref a) H := Or.inl ⟨rfl, _, Or.inl (Or.inl h)⟩
theorem at0 {A : Type} {x : A} {xs : List A} : atI (x :: xs) 0 = some x := atI_nat (j := 0) rfl
theorem at1 {A : Type} {x y : A} {xs : List A} : atI (x :: y :: xs) 1 = some y := atI_nat (j := 1) rfl
theorem at2 {A : Type} {x y z : A} {xs : List A} : atI (x :: y :: z :: xs) 2 = some z := atI_nat (j := 2) rfl
/-! ### deeds -/
def optV : Option Int → V
  | none => .non
  | some i => .int i
theorem optV_non (o : Option Int) : decide (optV o = .non) = o.isNone := by cases o <;> rfl
def deedV (d : Deed) : List V := [.int (kindOf d), optV (fldOf d), optV (numOf d)]
theorem cut2 (d : Deed) : ¬ (HT.sIx (deedV d).length 0 none = 0 ∧ HT.sIx (deedV d).length (deedV d).length (some 2) = (deedV d).length) := by
  have e : (deedV d).length = 3 := rfl
  rw [e]
  decide
/-- a deed: a tuple -/
def DeedAt (H : Hp) (d : Deed) (v : V) : Prop := ∃ p, v = .ref p ∧ H p = some (.tup (deedV d))
theorem DeedAt.same {H H' : Hp} {d : Deed} {v : V} (e : Same H H') (h : DeedAt H d v) : DeedAt H' d v := let ⟨p, a, b⟩ := h; ⟨p, a, e _ _ b⟩
/-- a list of deeds -/
def DeedsAt (H : Hp) (ds : List Deed) (v : V) : Prop := ∃ a vs, v = .ref a ∧ H a = some (.lst vs) ∧ All2 (DeedAt H) ds vs
theorem DeedsAt.same {H H' : Hp} {ds : List Deed} {v : V} (e : Same H H') (h : DeedsAt H ds v) : DeedsAt H' ds v :=
  let ⟨a, vs, b, c, d⟩ := h; ⟨a, vs, b, e _ _ c, d.mono fun _ _ x => x.same e⟩

/-! ### what is kept when an instance changes -/
/-- a relation that no change of an instance ends -/
def Keeps {A : Type} (R : A → Hp → V → Prop) : Prop := ∀ x H H' v a, But a H H' → (∃ C dx fs, H a = some (.ins C dx fs)) → R x H v → R x H' v
theorem DeedAt.keeps : Keeps fun d H v => DeedAt H d v := fun d H H' v a e ⟨C, dx, fs, ha⟩ ⟨p, h1, h2⟩ => ⟨p, h1, e _ _ h2 (ne_of h2 ha (by intro z; cases z))⟩
theorem DeedsAt.keeps : Keeps fun ds H v => DeedsAt H ds v := fun ds H H' v a e ⟨C, dx, fs, ha⟩ ⟨b, vs, h1, h2, h3⟩ =>
  ⟨b, vs, h1, e _ _ h2 (ne_of h2 ha (by intro z; cases z)), h3.mono fun d v x => DeedAt.keeps d H H' v a e ⟨C, dx, fs, ha⟩ x⟩
end My
namespace My
open PySem PySem.Spec PyProof.Rows L2
open VamacBase (Deed Prog Table Reader)
/-! ### an error that goes out -/
/-- Refused by its number, all that was tracked as it was -/
def ErrS (Ref : Addr) (c : Int) (H : Hp) (E : XK) : Prop := ∀ d H', Same H H' → H' d = some (.xd [(("code" : Str), .int c)]) → E (.ref Ref) (some d) H'
/-- .. but a -/
def ErrB (Ref a : Addr) (c : Int) (H : Hp) (E : XK) : Prop := ∀ d H', But a H H' → H' d = some (.xd [(("code" : Str), .int c)]) → E (.ref Ref) (some d) H'
theorem ErrB.S {Ref a : Addr} {c : Int} {H : Hp} {E : XK} (h : ErrB Ref a c H E) : ErrS Ref c H E := fun d H' e x => h d H' (But.of e) x
theorem ErrB.mono {Ref a : Addr} {c : Int} {H H1 : Hp} {E : XK} (h : ErrB Ref a c H E) (b : But a H H1) : ErrB Ref a c H1 E := fun d H' e x => h d H' (b.trans e) x
theorem ErrS.mono {Ref : Addr} {c : Int} {H H1 : Hp} {E : XK} (h : ErrS Ref c H E) (b : Same H H1) : ErrS Ref c H1 E := fun d H' e x => h d H' (b.trans e) x
theorem ErrS.new {Ref a : Addr} {c : Int} {H H1 : Hp} {E : XK} (h : ErrS Ref c H E) (b : Same H H1) (n : H a = none) : ErrB Ref a c H1 E := fun d H' e x => h d H' (fun b' o z => e b' o (b b' o z) (ne_of_none z n)) x

/-- want -/
def spWant (Ref : Addr) : Sp := fun vs H Q E => ∃ (b : Bool) (c : Int), vs = [.bl b, .int c] ∧ (b = true → Q .non H) ∧ (b = false → ErrS Ref c H E)
theorem sc_want : FnScope ["truth", "code"] ["truth", "code"] (defScope s_want) := ⟨rfl, rfl, rfl, by decide +kernel, rfl, by decide +kernel, by decide +kernel⟩
theorem ok_want {P : Program} {w : World} {K : PySem.W.Frag} {mg : Str → Option Value} {base : Heap} (T : Txt K mg) : FnOk P w K mg base (L2.CX P w) 3 T.want.f T.want.fd ["truth", "code"] (spWant T.Ref) := by
  refine T.want.F.okX sc_want (fun vs H Q E h => ?_) (fun cdv A outer s H vs Q E hr h => ⟨_, (pss_one (ps_if (pt_not (pt_val (pv 0)))
    (pss_one (ps_raiseLow rfl T.low hr (takes_of rfl rfl rfl rfl) (by exact (pa_cons (pv 1) pa_nil))))
    pss_nil)), ?_⟩)
  · obtain ⟨b, c, rfl, _⟩ := h
    rfl
  · obtain ⟨b, c, rfl, h1, h2⟩ := h
    refine ⟨_, rfl, _, rfl, ?_⟩
    cases b with
    | true => exact h1 rfl
    | false =>
      refine ⟨_, rfl, _, rfl, fun d hd => ?_⟩
      exact h2 rfl d _ (Same.new hd) upd_same
end My
namespace My
open PySem PySem.Spec PyProof.Rows L2
open VamacBase (Deed Prog Table Reader)
/-! ### Numbers -/
def numF (b : Addr) (k : Nat) : List (Str × V) := [("some", .ref b), ("done", .int (k : Int))]
theorem numF_some {b : Addr} {k : Nat} : (numF b k).lookup ("some" : Str) = some (.ref b) := by kernel_rfl
theorem numF_done {b : Addr} {k : Nat} : (numF b k).lookup ("done" : Str) = some (.int (k : Int)) := by kernel_rfl
theorem numF_take {b : Addr} {k : Nat} : (numF b k).lookup ("take" : Str) = none := by kernel_rfl
theorem numF_end {b : Addr} {k : Nat} : (numF b k).lookup ("end" : Str) = none := by kernel_rfl
theorem numF_new {b : Addr} : putF "done" (.int 0) (putF "some" (.ref b) []) = numF b 0 := by kernel_rfl
theorem numF_put {b : Addr} {k j : Nat} : putF "done" (.int (j : Int)) (numF b k) = numF b j := by kernel_rfl
/-- an object Numbers over a list, so many of its numbers done -/
structure NumAt (K : PySem.W.Frag) (C : Addr) (H : Hp) (a b : Addr) (l : List Int) (k : Nat) : Prop where
  at_ : ∃ dx, H a = some (.ins C dx (numF b k))
  seq : SqL K H b (l.map V.int)
  le : k ≤ l.length
  few : l.length ≤ 100000
section
variable {K : PySem.W.Frag} {C : Addr} {H H' : Hp} {a b : Addr} {l : List Int} {k : Nat}
theorem NumAt.ins (h : NumAt K C H a b l k) : ∃ C dx fs, H a = some (.ins C dx fs) :=
  let ⟨dx, e⟩ := h.at_
  ⟨C, dx, _, e⟩
theorem NumAt.some_ (h : NumAt K C H a b l k) : ∃ o, H a = some o :=
  let ⟨_, e⟩ := h.at_
  ⟨_, e⟩
theorem NumAt.same (h : NumAt K C H a b l k) (e : Same H H') : NumAt K C H' a b l k :=
  let ⟨dx, e1⟩ := h.at_
  ⟨⟨dx, e _ _ e1⟩, e.seq h.seq, h.le, h.few⟩
/-- a list that H knows stands where all but a new object is as it was -/
theorem seq_past {D : Addr} {o : HO} {xs : List V} (h : SqL K H b xs) (hD : H D = none) (h' : SqL K H' b xs) : SqL K (upd H' D o) b xs := by
  have go : ∀ u, H b = some u → ∀ u', H' b = some u' → upd H' D o b = some u' := fun u e u' e' => by
    rw [upd_ne (ne_of_none e hD)]
    exact e'
  rcases h with (h | ⟨ob, h⟩) | h
  · rcases h' with (h' | ⟨ob', h'⟩) | h'
    · exact .inl (.inl (go _ h _ h'))
    · exact .inl (.inr ⟨ob', go _ h _ h'⟩)
    · exact .inr h'
  · rcases h' with (h' | ⟨ob', h'⟩) | h'
    · exact .inl (.inl (go _ h _ h'))
    · exact .inl (.inr ⟨ob', go _ h _ h'⟩)
    · exact .inr h'
  · exact .inr h
end
theorem seq_but {K : PySem.W.Frag} {H H' : Hp} {a b : Addr} {xs : List V} (e : But a H H') (ha : ∃ C dx fs, H a = some (.ins C dx fs)) (h : SqL K H b xs) : SqL K H' b xs := by
  obtain ⟨C, dx, fs, ha⟩ := ha
  rcases h with (h | ⟨o, h⟩) | h
  · exact .inl (.inl (e _ _ h (ne_of h ha (by intro z; cases z))))
  · exact .inl (.inr ⟨o, e _ _ h (ne_of h ha (by intro z; cases z))⟩)
  · exact .inr h
def spNumInit (K : PySem.W.Frag) (C : Addr) : Sp := fun vs H Q _ => ∃ (p dx b : Addr) (l : List Int), vs = [.ref p, .ref b] ∧ H p = some (.ins C dx []) ∧ SqL K H b (l.map V.int) ∧ l.length ≤ 100000 ∧
  ∀ H' : Hp, NumAt K C H' p b l 0 → But p H H' → Q .non H'
theorem sc_Numbers_init : FnScope ["self", "some"] ["self", "some"] (defScope s_Numbers_init) := ⟨rfl, rfl, rfl, by decide +kernel, rfl, by decide +kernel, by decide +kernel⟩
theorem ok_Numbers_init {P : Program} {w : World} {K : PySem.W.Frag} {mg : Str → Option Value} {base : Heap} (T : Txt K mg) : FnOk P w K mg base CX0 1 T.Numbers_init.f T.Numbers_init.fd ["self", "some"] (spNumInit K T.Numbers.C) := by
  refine T.Numbers_init.F.ok sc_Numbers_init (fun vs H Q E h => ?_) (fun cdv A outer s H vs Q E hr h => ⟨_, (pss_cons (ps_fldK (K := K) (pv 0) (pv 1) rfl)
    (pss_one (ps_fldK (K := K) (pv 0) pe_int rfl))), ?_⟩)
  · obtain ⟨p, dx, b, l, rfl, _⟩ := h
    rfl
  · obtain ⟨p, dx, b, l, rfl, hp, hb, hl, k⟩ := h
    refine ⟨_, rfl, _, rfl, p, _, dx, [], rfl, hp, T.Numbers.cl, T.n_Numbers_some, (by show 0 < 1000; decide), ?_⟩
    refine ⟨_, rfl, p, _, dx, _, rfl, upd_same, T.Numbers.cl, T.n_Numbers_done, (by show 1 < 1000; decide), ?_⟩
    have bt : But p H (upd (upd H p (.ins T.Numbers.C dx (putF "some" (.ref b) []))) p (.ins T.Numbers.C dx (putF "done" (.int 0) (putF "some" (.ref b) [])))) := But.wr.trans But.wr
    exact k _ ⟨⟨dx, by rw [← numF_new]; exact upd_same⟩, seq_but bt ⟨_, _, _, hp⟩ hb, Nat.zero_le _, hl⟩ bt
/-- take -/
def spTake (K : PySem.W.Frag) (C Ref : Addr) : Sp := fun vs H Q E => ∃ (a b : Addr) (lo hi : Int) (l : List Int) (k : Nat), vs = [.ref a, .int lo, .int hi] ∧ NumAt K C H a b l k ∧
  (takeZ lo hi (l.drop k) = none → ErrB Ref a (-1) H E) ∧
  (∀ z k' H', takeZ lo hi (l.drop k) = some (z, l.drop k') → But a H H' → NumAt K C H' a b l k' → Q (.int z) H')
theorem sc_Numbers_take : FnScope ["self", "least", "most"] ["self", "least", "most"] (defScope s_Numbers_take) := ⟨rfl, rfl, rfl, by decide +kernel, rfl, by decide +kernel, by decide +kernel⟩
theorem ok_Numbers_take {P : Program} {w : World} {K : PySem.W.Frag} {mg : Str → Option Value} {base : Heap} (T : Txt K mg) : FnOk P w K mg base (L2.CX P w) 4 T.Numbers_take.f T.Numbers_take.fd ["self", "least", "most"] (spTake K T.Numbers.C T.Ref) := by
  refine T.Numbers_take.F.okX sc_Numbers_take (fun vs H Q E h => ?_) (fun cdv A outer s H vs Q E hr h => ⟨_, (pss_cons (ps_expr (pe_call (ok_want T) (hr.mono (by decide)) rfl T.want.g T.want.k T.want.b .nil (passes_call (takes_of rfl rfl rfl rfl) fun _ _ _ _ h => h) (by exact (pa_cons (pe_and (pe_cmpR op_lt (pe_fldK (K := K) (pv 0) rfl) (pe_callB (call_lenK (K := K)) (by rfl) T.z_len PySem.boot_len (by exact (pa_cons (pe_fldK (K := K) (pv 0) rfl) pa_nil))) (nomark _)) (pe_one (pe_chain op_le op_le (pv 1) (pe_ix (ix_listK (K := K)) (pe_fldK (K := K) (pv 0) rfl) (pe_fldK (K := K) (pv 0) rfl) (fun _ _ => rfl)) (pv 2)))) (pa_cons (pe_cst (by rfl) T.c_BAD) pa_nil)))))
    (pss_cons (ps_fldK (K := K) (pv 0) (pe_op op_add (pe_fldK (K := K) (pv 0) rfl) pe_int) rfl)
    (pss_one (ps_ret (pe_ix (ix_listK (K := K)) (pe_fldK (K := K) (pv 0) rfl) (pe_op op_sub (pe_fldK (K := K) (pv 0) rfl) pe_int) (fun _ _ => rfl)))))), ?_⟩)
  · obtain ⟨a, b, lo, hi, l, k, rfl, _⟩ := h
    rfl
  · obtain ⟨a, b, lo, hi, l, k, rfl, N, hE, hQ⟩ := h
    obtain ⟨dx, ha⟩ := N.at_
    have hb := N.seq
    have hat : ∀ {z : Int} {r : List Int}, l.drop k = z :: r → atI (l.map V.int) (k : Int) = some (V.int z) := fun {z r} e => by
      refine atI_nat ?_
      rw [List.getElem?_map]
      have : l[k]? = some z := by
        have := List.getElem?_drop (xs := l) (i := k) (j := 0)
        rw [e] at this
        exact this.symm
      rw [this]
      rfl
    refine ⟨_, rfl, a, _, dx, _, _, rfl, ha, T.Numbers.cl, T.n_Numbers_done, numF_done, ?_⟩
    refine ⟨_, rfl, a, _, dx, _, _, rfl, ha, T.Numbers.cl, T.n_Numbers_some, numF_some, b, _, rfl, .inl hb, _, _, rfl, rfl, _, rfl, ?_⟩
    rw [List.length_map]
    cases hd : l.drop k with
    | nil =>
      have hk : l.length ≤ k := List.drop_eq_nil_iff.mp hd
      rw [decide_eq_false (by omega)]
      refine iteF ?_
      exact ⟨false, -1, rfl, fun z => (by simp at z), fun _ => (hE (by rw [hd]; rfl)).S⟩
    | cons z r =>
      have hk : k < l.length := by
        have := congrArg List.length hd
        rw [List.length_drop, List.length_cons] at this
        omega
      have hr' : r = l.drop (k + 1) := by
        have := congrArg (List.drop 1) hd
        rw [List.drop_drop] at this
        exact this.symm
      rw [decide_eq_true (by omega)]
      refine iteT ?_
      refine ⟨_, rfl, _, rfl, a, _, dx, _, _, rfl, ha, T.Numbers.cl, T.n_Numbers_some, numF_some, _, rfl, a, _, dx, _, _, rfl, ha, T.Numbers.cl, T.n_Numbers_done, numF_done, b, _, _, _, rfl, rfl, hb, hat hd, _, _, rfl, rfl, _, rfl, ?_⟩
      by_cases h1 : lo ≤ z
      · rw [decide_eq_true h1]
        refine iteT ⟨_, rfl, _, _, rfl, rfl, _, _, rfl, fun h2 => ?_, fun h2 => ?_⟩
        · -- self.done = self.done + 1
          have h2 := of_decide_eq_true h2
          have ht : takeZ lo hi (l.drop k) = some (z, l.drop (k + 1)) := by
            rw [hd, ← hr']
            exact if_pos ⟨h1, h2⟩
          refine ⟨_, rfl, a, _, dx, _, _, rfl, ha, T.Numbers.cl, T.n_Numbers_done, numF_done, _, _, rfl, rfl, _, rfl, a, _, dx, _, rfl, ha, T.Numbers.cl, T.n_Numbers_done, (by show 2 < 1000; decide), ?_⟩
          have hp : putF "done" (.int ((k : Int) + 1)) (numF b k) = numF b (k + 1) := numF_put (j := k + 1)
          rw [hp]
          have bt : But a H (upd H a (.ins T.Numbers.C dx (numF b (k + 1)))) := But.wr
          have hb' := seq_but bt ⟨_, _, _, ha⟩ hb
          -- return self.some[self.done - 1]
          refine ⟨_, rfl, a, _, dx, _, _, rfl, upd_same, T.Numbers.cl, T.n_Numbers_some, numF_some, _, rfl, a, _, dx, _, _, rfl, upd_same, T.Numbers.cl, T.n_Numbers_done, numF_done, _, _, rfl, rfl, b, _, _, _, rfl, rfl, hb', ?_, hQ z (k + 1) _ ht bt ⟨⟨dx, upd_same⟩, hb', by omega, N.few⟩⟩
          have e : ((k + 1 : Nat) : Int) - 1 = (k : Int) := by omega
          rw [e]
          exact hat hd
        · have h2 := of_decide_eq_false h2
          exact (hE (by rw [hd]; exact if_neg fun q => h2 q.2)).S
      · rw [decide_eq_false h1]
        exact iteF ⟨false, -1, rfl, fun z => (by simp at z), fun _ => (hE (by rw [hd]; exact if_neg fun q => h1 q.1)).S⟩
/-- end -/
def spEnd (K : PySem.W.Frag) (C Ref : Addr) : Sp := fun vs H Q E => ∃ (a b : Addr) (l : List Int) (k : Nat), vs = [.ref a] ∧ NumAt K C H a b l k ∧ (l.drop k = [] → Q .non H) ∧ (l.drop k ≠ [] → ErrS Ref (-1) H E)
theorem sc_Numbers_end : FnScope ["self"] ["self"] (defScope s_Numbers_end) := ⟨rfl, rfl, rfl, by decide +kernel, rfl, by decide +kernel, by decide +kernel⟩
theorem ok_Numbers_end {P : Program} {w : World} {K : PySem.W.Frag} {mg : Str → Option Value} {base : Heap} (T : Txt K mg) : FnOk P w K mg base (L2.CX P w) 4 T.Numbers_end.f T.Numbers_end.fd ["self"] (spEnd K T.Numbers.C T.Ref) := by
  refine T.Numbers_end.F.okX sc_Numbers_end (fun vs H Q E h => ?_) (fun cdv A outer s H vs Q E hr h => ⟨_, (pss_one (ps_expr (pe_call (ok_want T) (hr.mono (by decide)) rfl T.want.g T.want.k T.want.b .nil (passes_call (takes_of rfl rfl rfl rfl) fun _ _ _ _ h => h) (by exact (pa_cons (pe_cmpR op_eq (pe_fldK (K := K) (pv 0) rfl) (pe_callB (call_lenK (K := K)) (by rfl) T.z_len PySem.boot_len (by exact (pa_cons (pe_fldK (K := K) (pv 0) rfl) pa_nil))) (nomark _)) (pa_cons (pe_cst (by rfl) T.c_BAD) pa_nil)))))), ?_⟩)
  · obtain ⟨a, b, l, k, rfl, _⟩ := h
    rfl
  · obtain ⟨a, b, l, k, rfl, N, hQ, hE⟩ := h
    obtain ⟨dx, ha⟩ := N.at_
    have hb := N.seq
    refine ⟨_, rfl, a, _, dx, _, _, rfl, ha, T.Numbers.cl, T.n_Numbers_done, numF_done, ?_⟩
    refine ⟨_, rfl, a, _, dx, _, _, rfl, ha, T.Numbers.cl, T.n_Numbers_some, numF_some, b, _, rfl, .inl hb, rfl, _, _, rfl, fun h2 => ?_, fun h2 => ?_⟩
    · refine hQ (List.drop_eq_nil_iff.mpr ?_)
      have h2 := of_decide_eq_true h2
      injection h2 with h2
      rw [List.length_map] at h2
      omega
    · refine hE fun z => ?_
      have h2 := of_decide_eq_false h2
      have h3 := List.drop_eq_nil_iff.mp z
      have h4 := N.le
      refine h2 ?_
      rw [List.length_map]
      congr 1
      omega
end My
namespace My
open PySem PySem.Spec PyProof.Rows L2
open VamacBase (Deed Prog Table Reader readDeed readTimes)
/-! ### readers -/
section
variable {K : PySem.W.Frag} {C Ref : Addr} {E : XK} {σ : L2.St} {H : Hp} {a b : Addr} {l : List Int} {k : Nat}
/-- numbers.take(lo, hi) -/
theorem take_rd {lo hi : Int} {i : Nat} {QQ : VK} {t1 t2 : TE} (h0 : σ[i]? = some (some (.ref a))) (N : NumAt K C H a b l k) (h1 : ∀ (Q : VK), Q (.int lo) H → t1 σ H Q) (h2 : ∀ (Q : VK), Q (.int hi) H → t2 σ H Q)
    (hE : takeZ lo hi (l.drop k) = none → ErrB Ref a (-1) H E) (hQ : ∀ z k' H', takeZ lo hi (l.drop k) = some (z, l.drop k') → But a H H' → NumAt K C H' a b l k' → QQ (.int z) H') :
    tMeth C "take" (spTake K C Ref) [] E (tVar i) (tCons t1 (tCons t2 tNil)) σ H QQ := by
  obtain ⟨dx, ha⟩ := N.at_
  refine ⟨_, h0, a, dx, _, rfl, ha, numF_take, ?_⟩
  refine h1 _ (h2 _ ?_)
  exact ⟨a, b, lo, hi, l, k, rfl, N, hE, hQ⟩
theorem num_c {z : Int} (Q : VK) (h : Q (.int z) H) : tC (.int z) σ H Q := h
theorem num_neg {z : Int} (Q : VK) (h : Q (.int (-z)) H) : tUn (rU fun i => .int (-i)) (tC (.int z)) σ H Q := ⟨z, rfl, h⟩
/-- numbers.end() -/
theorem end_rd {i : Nat} {QQ : VK} (h0 : σ[i]? = some (some (.ref a))) (N : NumAt K C H a b l k) (hE : l.drop k ≠ [] → ErrS Ref (-1) H E) (hQ : l.drop k = [] → QQ .non H) :
    tMeth C "end" (spEnd K C Ref) [] E (tVar i) tNil σ H QQ := by
  obtain ⟨dx, ha⟩ := N.at_
  refine ⟨_, h0, a, dx, _, rfl, ha, numF_end, ?_⟩
  exact ⟨a, b, l, k, rfl, N, hQ, hE⟩
/-- a def that reads -/
def spRd {A : Type} (K : PySem.W.Frag) (C Ref : Addr) (rd : Reader A) (R : A → Hp → V → Prop) : Sp := fun vs H Q E => ∃ (a b : Addr) (l : List Int) (k : Nat), vs = [.ref a] ∧ NumAt K C H a b l k ∧
  (rd (l.drop k) = none → ErrB Ref a (-1) H E) ∧
  (∀ x k' H' v, rd (l.drop k) = some (x, l.drop k') → But a H H' → NumAt K C H' a b l k' → R x (New H H') v → Q v H')
end
theorem hasF_in (s : Int) : inV (.int s) (([3, 4, 5, 6, 9] : List Int).map V.int) = hasF s := by
  have h : ∀ n : Int, (n == s) = (s == n) := fun n => by rw [Bool.eq_iff_iff, beq_iff_eq, beq_iff_eq]; exact eq_comm
  show (((3 : Int) == s) || (((4 : Int) == s) || (((5 : Int) == s) || (((6 : Int) == s) || (((9 : Int) == s) || false))))) = _
  rw [h 3, h 4, h 5, h 6, h 9, Bool.or_false]
  unfold hasF
  rw [Bool.or_assoc, Bool.or_assoc, Bool.or_assoc]
theorem hasN_in (s : Int) : inV (.int s) (([3, 4, 9] : List Int).map V.int) = hasN s := by
  have h : ∀ n : Int, (n == s) = (s == n) := fun n => by rw [Bool.eq_iff_iff, beq_iff_eq, beq_iff_eq]; exact eq_comm
  show (((3 : Int) == s) || (((4 : Int) == s) || (((9 : Int) == s) || false))) = _
  rw [h 3, h 4, h 9, Bool.or_false]
  unfold hasN
  rw [Bool.or_assoc]
theorem sc_read_deed : FnScope ["numbers", "sort", "field", "number"] ["numbers"] (defScope s_read_deed) := ⟨rfl, rfl, rfl, by decide +kernel, rfl, by decide +kernel, by decide +kernel⟩
theorem ok_read_deed {P : Program} {w : World} {K : PySem.W.Frag} {mg : Str → Option Value} {base : Heap} (T : Txt K mg) : FnOk P w K mg base (L2.CX P w) 5 T.read_deed.f T.read_deed.fd ["numbers"] (spRd K T.Numbers.C T.Ref readDeed (fun d H v => DeedAt H d v)) := by
  refine T.read_deed.F.okX sc_read_deed (fun vs H Q E h => ?_) (fun cdv A outer s H vs Q E hr h => ⟨_, (pss_cons (ps_set (i := 1) sc_read_deed.nd rfl (Or.inl rfl) (pe_meth (pv 0) T.Numbers.cl T.Numbers_take.m (ok_Numbers_take T) (hr.mono (by decide)) T.Numbers_take.b .nil (passes_call (takes_of rfl rfl rfl rfl) fun _ _ _ _ h => h) (by exact (pa_cons (pe_cst (by rfl) T.c_DOWN) (pa_cons (pe_cst (by rfl) T.c_FIND) pa_nil)))))
    (pss_cons (ps_set (i := 2) sc_read_deed.nd rfl (Or.inl rfl) (pe_ifExp (pt_cmpR (op_inK (K := K)) (pv 1) (pe_tupc (by rfl) T.WITH_FIELD) (by rfl)) (pe_meth (pv 0) T.Numbers.cl T.Numbers_take.m (ok_Numbers_take T) (hr.mono (by decide)) T.Numbers_take.b .nil (passes_call (takes_of rfl rfl rfl rfl) fun _ _ _ _ h => h) (by exact (pa_cons pe_int (pa_cons (pe_cst (by rfl) T.c_LAST_FIELD) pa_nil)))) pe_non))
    (pss_cons (ps_set (i := 3) sc_read_deed.nd rfl (Or.inl rfl) (pe_ifExp (pt_cmpR (op_inK (K := K)) (pv 1) (pe_tupc (by rfl) T.WITH_NUMBER) (by rfl)) (pe_meth (pv 0) T.Numbers.cl T.Numbers_take.m (ok_Numbers_take T) (hr.mono (by decide)) T.Numbers_take.b .nil (passes_call (takes_of rfl rfl rfl rfl) fun _ _ _ _ h => h) (by exact (pa_cons (pe_un un_neg (pe_cst (by rfl) T.c_MOST)) (pa_cons (pe_cst (by rfl) T.c_MOST) pa_nil)))) pe_non))
    (pss_one (ps_ret (pe_tup (by exact (pa_cons (pv 1) (pa_cons (pv 2) (pa_cons (pv 3) pa_nil)))))))))), ?_⟩)
  · obtain ⟨a, b, l, k, rfl, _⟩ := h
    rfl
  · obtain ⟨a, b, l, k, rfl, N, hE, hQ⟩ := h
    have eR := rdT_eq (l.drop k)
    have hE : rdT (l.drop k) = none → ErrB T.Ref a (-1) H E := fun z => hE (by
      rw [z] at eR
      cases q : readDeed (l.drop k) with
      | none => rfl
      | some u => rw [q] at eR; cases eR)
    unfold rdT at hE eR
    refine take_rd (a := a) rfl N num_c num_c (fun z => hE (by rw [z]; rfl)) fun s k1 H1 e1 b1 N1 => ?_
    rw [e1] at hE eR
    have hE : ((takeIf (hasF s) 0 2 (l.drop k1)).bind fun f => (takeIf (hasN s) (-999) 999 f.2).map fun n => ((s, f.1, n.1), n.2)) = none → ErrB T.Ref a (-1) H1 E := fun z => (hE z).mono b1
    have eR : ((takeIf (hasF s) 0 2 (l.drop k1)).bind fun f => (takeIf (hasN s) (-999) 999 f.2).map fun n => ((s, f.1, n.1), n.2)) = (readDeed (l.drop k)).map fun u => (tripleOf u.1, u.2) := eR
    -- the number, then the tuple
    have fin : ∀ (f : Option Int) (k2 : Nat) (H2 : Hp), takeIf (hasF s) 0 2 (l.drop k1) = some (f, l.drop k2) → But a H1 H2 → NumAt K T.Numbers.C H2 a b l k2 →
        tSeq (tAsg (tIf (tTest (tOp (rIn K false) (tVar 1) (tC (.ref T.WITH_NUMBER.a)))) (tMeth T.Numbers.C "take" (spTake K T.Numbers.C T.Ref) [] E (tVar 0) (tCons (tUn (rU fun i => .int (-i)) (tC (.int 999))) (tCons (tC (.int 999)) tNil))) (tC .non)) (gName 3))
          (tRet (tTup (tCons (tVar 1) (tCons (tVar 2) (tCons (tVar 3) tNil))))) { nx := fun _ H' => Q .non H', rt := Q } [some (.ref a), some (.int s), some (optV f), none] H2 := by
      intro f k2 H2 e2 b2 N2
      rw [e2] at hE eR
      have hE : ((takeIf (hasN s) (-999) 999 (l.drop k2)).map fun n => ((s, f, n.1), n.2)) = none → ErrB T.Ref a (-1) H2 E := fun z => (hE z).mono b2
      have eR : ((takeIf (hasN s) (-999) 999 (l.drop k2)).map fun n => ((s, f, n.1), n.2)) = (readDeed (l.drop k)).map fun u => (tripleOf u.1, u.2) := eR
      have fin2 : ∀ (n : Option Int) (k3 : Nat) (H3 : Hp), takeIf (hasN s) (-999) 999 (l.drop k2) = some (n, l.drop k3) → But a H2 H3 → NumAt K T.Numbers.C H3 a b l k3 →
          tRet (tTup (tCons (tVar 1) (tCons (tVar 2) (tCons (tVar 3) tNil)))) { nx := fun _ H' => Q .non H', rt := Q } [some (.ref a), some (.int s), some (optV f), some (optV n)] H3 := by
        intro n k3 H3 e3 b3 N3
        rw [e3] at eR
        refine ⟨_, rfl, _, rfl, _, rfl, by show 3 ≤ sizeLine; decide, fun p hp => ?_⟩
        cases q : readDeed (l.drop k) with
        | none => rw [q] at eR; cases eR
        | some u =>
          obtain ⟨d, r⟩ := u
          rw [q] at eR
          have eR : some ((s, f, n), l.drop k3) = some (tripleOf d, r) := eR
          obtain ⟨e4, e5⟩ := Prod.mk.inj (Option.some.inj eR)
          obtain ⟨e6, e7⟩ := Prod.mk.inj e4
          obtain ⟨e8, e9⟩ := Prod.mk.inj e7
          have bt := ((b1.trans b2).trans b3).new hp (o := .tup [.int s, optV f, optV n])
          have ex3 := N3.some_
          refine hQ d k3 _ _ (by rw [q, e5]) bt (N3.same (Same.new hp)) ⟨p, rfl, New.of ((Dom.but ((b1.trans b2).trans b3) ex3).none hp) ?_⟩
          rw [upd_same, e6, e8, e9]
          rfl
      refine ⟨_, rfl, T.WITH_NUMBER.a, _, rfl, .inr (T.WITH_NUMBER.t H2), rfl, rfl, ?_⟩
      rw [if_neg Bool.false_ne_true, hasN_in]
      refine ⟨_, rfl, ?_⟩
      cases hn : hasN s with
      | true =>
        refine iteT (take_rd (a := a) rfl N2 num_neg num_c (fun z => hE ?_) fun z k3 H3 e3 b3 N3 => ?_)
        · rw [hn]
          show Option.map _ (Option.map _ _) = none
          rw [z]
          rfl
        · refine fin2 (some z) k3 H3 ?_ b3 N3
          rw [hn]
          show Option.map _ _ = _
          rw [e3]
          rfl
      | false => exact iteF (fin2 none k2 H2 (by rw [hn]; rfl) (But.refl _ _) N2)
    refine ⟨_, rfl, T.WITH_FIELD.a, _, rfl, .inr (T.WITH_FIELD.t H1), rfl, rfl, ?_⟩
    rw [if_neg Bool.false_ne_true, hasF_in]
    refine ⟨_, rfl, ?_⟩
    cases hf : hasF s with
    | true =>
      refine iteT (take_rd (a := a) rfl N1 num_c num_c (fun z => hE ?_) fun z k2 H2 e2 b2 N2 => ?_)
      · rw [hf]
        show Option.bind (Option.map _ _) _ = none
        rw [z]
        rfl
      · refine fin (some z) k2 H2 ?_ b2 N2
        rw [hf]
        show Option.map _ _ = _
        rw [e2]
        rfl
    | false => exact iteF (fin none k1 H1 (by rw [hf]; rfl) (But.refl _ _) N1)
end My
namespace My
open PySem PySem.Spec PyProof.Rows L2
open VamacBase (Deed Prog Table Reader readDeed readTimes whole readListed)
section
variable {K : PySem.W.Frag} {C Ref : Addr} {E : XK} {σ : L2.St} {H : Hp} {a b : Addr} {l : List Int} {k : Nat} {A : Type} {rd : Reader A} {R : A → Hp → V → Prop} {QQ : VK}
/-- Numbers(some) -/
theorem make_num {i : Nat} (h0 : σ[i]? = some (some (.ref b))) (hb : SqL K H b (l.map V.int)) (hl : l.length ≤ 100000) (hQ : ∀ x H', H x = none → Same H H' → NumAt K C H' x b l 0 → QQ (.ref x) H') :
    tMake C (spNumInit K C) [] E (tCons (tVar i) tNil) σ H QQ := by
  refine ⟨_, h0, ?_⟩
  intro x dx nx nd ne
  have s1 : Same H (upd (upd H dx (.own x)) x (.ins C dx [])) := Same.mut (Same.new nd) nx
  refine ⟨x, dx, b, l, rfl, upd_same, s1.seq hb, hl, fun H' N bt => ⟨rfl, hQ x H' nx (fun c o e => bt c o (s1 c o e) (ne_of_none e nx)) N⟩⟩
theorem call_rd {i : Nat} (h0 : σ[i]? = some (some (.ref a))) (N : NumAt K C H a b l k) (hE : rd (l.drop k) = none → ErrB Ref a (-1) H E)
    (hQ : ∀ x k' H' v, rd (l.drop k) = some (x, l.drop k') → But a H H' → NumAt K C H' a b l k' → R x (New H H') v → QQ v H') : tCall (spRd K C Ref rd R) [] E (tCons (tVar i) tNil) σ H QQ :=
  ⟨_, h0, a, b, l, k, rfl, N, hE, hQ⟩
/-- a def that reads a list whole -/
def spWhole (K : PySem.W.Frag) (Ref : Addr) (rd : Reader A) (R : A → Hp → V → Prop) : Sp := fun vs H Q E => ∃ (b : Addr) (l : List Int), vs = [.ref b] ∧ SqL K H b (l.map V.int) ∧ l.length ≤ 100000 ∧
  (whole rd l = none → ErrS Ref (-1) H E) ∧ (∀ x H' v, whole rd l = some x → Same H H' → R x (New H H') v → Q v H')
theorem whole_none {l : List Int} (h : rd l = none) : whole rd l = none := by unfold whole; rw [h]
theorem whole_rest {l r : List Int} {x : A} (h : rd l = some (x, r)) (hr : r ≠ []) : whole rd l = none := by
  unfold whole
  rw [h]
  cases r with
  | nil => exact absurd rfl hr
  | cons _ _ => rfl
theorem whole_some {l r : List Int} {x : A} (h : rd l = some (x, r)) (hr : r = []) : whole rd l = some x := by
  unfold whole
  rw [h, hr]
theorem New.same {H H1 H2 : Hp} (x : Same H1 H2) : Same (New H H1) (New H H2) := fun b o h => let ⟨h1, h2⟩ := New.out h; New.of h1 (x b o h2)
end
theorem sc_whole_deed : FnScope ["some", "numbers", "found"] ["some"] (defScope s_whole_deed) := ⟨rfl, rfl, rfl, by decide +kernel, rfl, by decide +kernel, by decide +kernel⟩
theorem ok_whole_deed {P : Program} {w : World} {K : PySem.W.Frag} {mg : Str → Option Value} {base : Heap} (T : Txt K mg) : FnOk P w K mg base (L2.CX P w) 6 T.whole_deed.f T.whole_deed.fd ["some"] (spWhole K T.Ref readDeed (fun d H v => DeedAt H d v)) := by
  refine T.whole_deed.F.okX sc_whole_deed (fun vs H Q E h => ?_) (fun cdv A outer s H vs Q E hr h => ⟨_, (pss_cons (ps_set (i := 1) sc_whole_deed.nd rfl (Or.inl rfl) (pe_make T.mk_Numbers (ok_Numbers_init T) (hr.mono (by decide)) rfl T.Numbers.g T.Numbers_init.b .nil pass0 (by exact (pa_cons (pv 0) pa_nil))))
    (pss_cons (ps_set (i := 2) sc_whole_deed.nd rfl (Or.inl rfl) (pe_call (ok_read_deed T) (hr.mono (by decide)) rfl T.read_deed.g T.read_deed.k T.read_deed.b .nil (passes_call (takes_of rfl rfl rfl rfl) fun _ _ _ _ h => h) (by exact (pa_cons (pv 1) pa_nil))))
    (pss_cons (ps_expr (pe_meth0 (pv 1) T.Numbers.cl T.Numbers_end.m (ok_Numbers_end T) (hr.mono (by decide)) T.Numbers_end.b .nil (passes_call (takes_of rfl rfl rfl rfl) fun _ _ _ _ h => h)))
    (pss_one (ps_ret (pv 2)))))), ?_⟩)
  · obtain ⟨b, l, rfl, _⟩ := h
    rfl
  · obtain ⟨b, l, rfl, hb, hl, hE, hQ⟩ := h
    refine r_set (make_num (b := b) (l := l) rfl hb hl fun x H1 nx s1 N1 => ?_)
    refine r_set (call_rd (a := x) (k := 0) rfl N1 (fun e => ErrS.new (hE (whole_none (by rw [← e]; rfl))) s1 nx) fun d k' H2 v e b2 N2 r => ?_)
    have e : readDeed l = some (d, l.drop k') := e
    have s2 : Same H H2 := fun c o z => b2 c o (s1 c o z) (ne_of_none z nx)
    refine r_drop (end_rd (a := x) rfl N2 (fun z => (hE (whole_rest e z)).mono s2) fun z => ?_)
    refine ⟨_, rfl, hQ d H2 v (whole_some e z) s2 (r.same (New.more (Dom.of s1)))⟩
/-- [read(numbers) for turn in range(n)]: the reading of the comprehension, its new list at D -/
theorem lc_read {K : PySem.W.Frag} {C Ref : Addr} {E : XK} {σ : L2.St} {H : Hp} {a b D : Addr} {l : List Int} {k n j : Nat} {A : Type} {rd : Reader A} {R : A → Hp → V → Prop} {Qd : Hp → Prop} {te : TE}
    (mono : ∀ x H H' v, Same H H' → R x H v → R x H' v) (hn : n ≤ 1000) (hD : H D = none) (N : NumAt K C H a b l k)
    (hte : ∀ (H3 : Hp) (z : V) (QQ : VK) (k : Nat), NumAt K C H3 a b l k → (rd (l.drop k) = none → ErrB Ref a (-1) H3 E) → (∀ x k' H' v, rd (l.drop k) = some (x, l.drop k') → But a H3 H' → NumAt K C H' a b l k' → R x (New H3 H') v → QQ v H') → te ((wipe σ [j]).set j (some z)) H3 QQ)
    (hE : readTimes rd n (l.drop k) = none → ErrB Ref a (-1) H E)
    (hQ : ∀ xs k' H' vs, readTimes rd n (l.drop k) = some (xs, l.drop k') → But a H H' → NumAt K C H' a b l k' → H' D = some (.lst vs) → All2 (fun x v => R x (New (upd H D (.lst [])) H') v) xs vs → Qd H') :
    ∃ W : Nat → Nat → Hp → Prop, (∃ m, W 0 m (upd H D (.lst []))) ∧ ∀ i m H, W i m H →
      ((Itr 0 n).stop i H ∧ Qd H) ∨ ((Itr 0 n).go i H ∧ ∃ Nx : Hp → Prop, (∀ H', Nx H' → ∃ m', m' < m ∧ W (i + 1) m' H') ∧ ∀ x H', (Itr 0 n).yld i H x H' → gName j x (wipe σ [j]) H' fun σ2 H2 => wipe σ2 [j] = wipe σ [j] ∧ tYes σ2 H2 fun b H3 =>
        if b = true then te σ2 H3 fun y H4 => ∃ acc, H4 D = some (.lst acc) ∧ acc.length < sizeLine ∧ Nx (upd H4 D (.lst (acc ++ [y]))) else Nx H3) := by
  have aD : a ≠ D := fun z => by
    obtain ⟨o, h⟩ := N.some_
    rw [z, hD] at h
    cases h
  refine lc_range (lo := 0) (n := n) (fun i H' => ∃ xs vs k', readTimes rd i (l.drop k) = some (xs, l.drop k') ∧ But a H H' ∧ NumAt K C H' a b l k' ∧ H' D = some (.lst vs) ∧ All2 (fun x v => R x (New (upd H D (.lst [])) H') v) xs vs) ?_ ?_ ?_
  · exact ⟨[], [], k, rfl, But.of (Same.new hD), N.same (Same.new hD), upd_same, All2.nil⟩
  · rintro i H3 hi ⟨xs, vs, k', e, bt, N3, h3, hR⟩
    refine ⟨by show wipe ((wipe σ [j]).set j _) [j] = wipe σ [j]; simp [wipe], ?_⟩
    change te _ H3 _
    have hlen : xs.length = i := readTimes_length e
    refine hte H3 _ _ k' N3 (fun z => ?_) fun x k2 H4 v e2 b4 N4 r => ?_
    · refine (hE ?_).mono bt
      refine readTimes_none rd (n := i + 1) ?_ (by omega)
      rw [readTimes_snoc, e]
      show Option.map _ (rd (l.drop k')) = none
      rw [z]
      rfl
    · have d4 : H4 D = some (.lst vs) := b4 _ _ h3 (Ne.symm aD)
      have ex : ∃ o, (upd H D (.lst [])) a = some o := by rw [upd_ne aD]; exact N.some_
      have bt2 : But D H4 (upd H4 D (.lst (vs ++ [v]))) := But.wr
      have exD : ∃ o, (upd H D (.lst [])) D = some o := ⟨_, upd_same⟩
      refine ⟨vs, d4, by rw [← hR.1, hlen]; exact small1000 (by omega), xs ++ [x], vs ++ [v], k2, ?_, ?_, ?_, upd_same, ?_⟩
      · rw [readTimes_snoc, e]
        show Option.map _ (rd (l.drop k')) = _
        rw [e2]
        rfl
      · exact fun c o z z2 => by
          rw [upd_ne (ne_of_none z hD)]
          exact b4 _ _ (bt c o z z2) z2
      · obtain ⟨dx, h5⟩ := N4.at_
        exact ⟨⟨dx, by rw [upd_ne aD]; exact h5⟩, seq_past N.seq hD N4.seq, N4.le, N4.few⟩
      · refine All2.snoc ?_ ?_
        · exact hR.mono fun x v h => mono x _ _ v (New.but bt2 exD) (mono x _ _ v (New.but b4 ex) h)
        · refine mono x _ _ v (New.but bt2 exD) (mono x _ _ v (New.more ?_) r)
          intro c o z
          by_cases hc : c = D
          · rw [hc]
            exact ⟨_, h3⟩
          · rw [upd_ne hc] at z
            by_cases hca : c = a
            · rw [hca]
              exact N3.some_
            · exact ⟨o, bt c o z hca⟩
  · rintro H3 ⟨xs, vs, k', e, bt, N3, h3, hR⟩
    exact hQ xs k' H3 vs e bt N3 h3 hR
end My
namespace My
open PySem PySem.Spec PyProof.Rows L2
open VamacBase (Deed Prog Table Reader readDeed readTimes whole readListed flatDeed flatDeeds)
theorem listed_take {A : Type} (rd : Reader A) (m : Nat) (x : List Int) : readListed 0 m rd x = (takeZ 0 m x).bind fun n => readTimes rd n.1.toNat n.2 := by
  unfold readListed
  rw [readNat_take]
  show (Option.map _ (takeZ ((0 : Nat) : Int) m x)).bind _ = _
  cases takeZ ((0 : Nat) : Int) (m : Int) x <;> rfl
theorem sc_whole_recording : FnScope ["some", "numbers", "many", "found", "turn"] ["some"] (defScope s_whole_recording) := ⟨rfl, rfl, rfl, by decide +kernel, rfl, by decide +kernel, by decide +kernel⟩
theorem ok_whole_recording {P : Program} {w : World} {K : PySem.W.Frag} {mg : Str → Option Value} {base : Heap} (T : Txt K mg) : FnOk P w K mg base (L2.CX P w) 6 T.whole_recording.f T.whole_recording.fd ["some"] (spWhole K T.Ref (readListed 0 14 readDeed) (fun ds H v => DeedsAt H ds v)) := by
  refine T.whole_recording.F.okX sc_whole_recording (fun vs H Q E h => ?_) (fun cdv A outer s H vs Q E hr h => ⟨_, (pss_cons (ps_set (i := 1) sc_whole_recording.nd rfl (Or.inr rfl) (pe_make T.mk_Numbers (ok_Numbers_init T) (hr.mono (by decide)) rfl T.Numbers.g T.Numbers_init.b .nil pass0 (by exact (pa_cons (pv 0) pa_nil))))
    (pss_cons (ps_set (i := 2) sc_whole_recording.nd rfl (Or.inl rfl) (pe_meth (pv 1) T.Numbers.cl T.Numbers_take.m (ok_Numbers_take T) (hr.mono (by decide)) T.Numbers_take.b .nil (passes_call (takes_of rfl rfl rfl rfl) fun _ _ _ _ h => h) (by exact (pa_cons pe_int (pa_cons (pe_cst (by rfl) T.c_MOST_DEEDS) pa_nil)))))
    (pss_cons (ps_setLcX (i := 3) (own := [("turn", 4)]) (W := E) (takes_of rfl rfl rfl rfl) rfl rfl rfl sc_whole_recording.nd rfl rfl (sw_true rfl rfl rfl (by decide +kernel)) (pi_range1 (by rfl) T.z_range (by exact (pa_cons (pv 2) pa_nil))) (blkOk_by (N := ["some", "numbers", "many", "found", "turn"]) (sc := defScope s_whole_recording) (by decide +kernel)) (fun _ _ _ _ _ => (pg_name (i := 4) sc_whole_recording.nd rfl (Or.inl rfl))) (fun _ _ _ _ _ => pts_nil) (fun _ _ _ _ _ => (pe_call (ok_read_deed T) (hr.mono (by decide)) rfl T.read_deed.g T.read_deed.k T.read_deed.b .nil passB (by exact (pa_cons (pv 1) pa_nil)))))
    (pss_cons (ps_expr (pe_meth0 (pv 1) T.Numbers.cl T.Numbers_end.m (ok_Numbers_end T) (hr.mono (by decide)) T.Numbers_end.b .nil (passes_call (takes_of rfl rfl rfl rfl) fun _ _ _ _ h => h)))
    (pss_one (ps_ret (pv 3))))))), ?_⟩)
  · obtain ⟨b, l, rfl, _⟩ := h
    rfl
  · obtain ⟨b, l, rfl, hb, hl, hE, hQ⟩ := h
    refine r_set (make_num (b := b) (l := l) rfl hb hl fun x H1 nx s1 N1 => ?_)
    refine r_set (take_rd (a := x) (k := 0) rfl N1 num_c num_c (fun e => ErrS.new (hE (whole_none ?_)) s1 nx) fun z k1 H2 e1 b1 N2 => ?_)
    · rw [listed_take, show takeZ 0 ((14 : Nat) : Int) l = none from e]
      rfl
    have e1 : takeZ 0 ((14 : Nat) : Int) l = some (z, l.drop k1) := e1
    obtain ⟨_, z0, z14⟩ := takeZ_some e1
    have s2 : Same H H2 := fun c o y => b1 c o (s1 c o y) (ne_of_none y nx)
    have eL : readListed 0 14 readDeed l = readTimes readDeed z.toNat (l.drop k1) := by
      rw [listed_take, e1]
      rfl
    refine r_set ⟨_, rfl, z, rfl, by omega, by omega, fun D hD => ?_⟩
    refine lc_read (K := K) (C := T.Numbers.C) (Ref := T.Ref) (E := E) (a := x) (b := b) (l := l) (k := k1) (rd := readDeed) (R := fun d H v => DeedAt H d v) (fun d H H' v s h => h.same s) (by omega) hD N2 (fun H3 y QQ k N3 h3 h4 => ?_) (fun e => ?_) fun ds k' H3 vs e b3 N3 h3 hR => ?_
    · exact call_rd (a := x) (b := b) (l := l) (k := k) rfl N3 h3 h4
    · exact ErrS.new (hE (whole_none (by rw [eL, e]))) s2 nx
    · have s3 : Same H H3 := fun c o y => b3 c o (s2 c o y) (ne_of_none y nx)
      have e' : readListed 0 14 readDeed l = some (ds, l.drop k') := eL.trans e
      refine r_drop (end_rd (a := x) (b := b) (l := l) (k := k') rfl N3 (fun y => (hE (whole_rest e' y)).mono s3) fun y => ?_)
      have dD : Dom H (upd H2 D (.lst [])) := (Dom.of s2).trans (Dom.of (Same.new hD))
      exact ⟨_, rfl, hQ ds H3 _ (whole_some e' y) s3 ⟨D, vs, rfl, New.of ((Dom.of s2).none hD) h3, hR.mono fun d v h => h.same (New.more dD)⟩⟩
/-- grown -/
def spGrown : Sp := fun vs H Q _ => ∃ (v : V) (d : Deed) (by_ : Int), vs = [v, .int by_] ∧ DeedAt H d v ∧ ∀ H' v', Same H H' → DeedAt H' (VamacBase.withNumber (VamacBase.numberOf d + by_) d) v' → Q v' H'
theorem sc_grown : FnScope ["deed", "by", "sort", "field", "number"] ["deed", "by"] (defScope s_grown) := ⟨rfl, rfl, rfl, by decide +kernel, rfl, by decide +kernel, by decide +kernel⟩
theorem ok_grown {P : Program} {w : World} {K : PySem.W.Frag} {mg : Str → Option Value} {base : Heap} (T : Txt K mg) : FnOk P w K mg base CX0 1 T.grown.f T.grown.fd ["deed", "by"] (spGrown) := by
  refine T.grown.F.ok sc_grown (fun vs H Q E h => ?_) (fun cdv A outer s H vs Q E hr h => ⟨_, (pss_cons (ps_asg (pv 0) (pg_tupK (K := K) (n := 3) (by rfl) (pgs_cons (pg_name (i := 2) sc_grown.nd rfl (Or.inl rfl)) (pgs_cons (pg_name (i := 3) sc_grown.nd rfl (Or.inl rfl)) (pgs_cons (pg_name (i := 4) sc_grown.nd rfl (Or.inl rfl)) pgs_nil)))))
    (pss_one (ps_ret (pe_tup (by exact (pa_cons (pv 2) (pa_cons (pv 3) (pa_cons (pe_ifExp (pt_cmp (pc_isN (pv 4))) pe_non (pe_op op_add (pv 4) (pv 1))) pa_nil)))))))), ?_⟩)
  · obtain ⟨v, d, y, rfl, _⟩ := h
    rfl
  · obtain ⟨v, d, y, rfl, ⟨p, rfl, hp⟩, hQ⟩ := h
    refine ⟨_, rfl, p, _, rfl, SqT.of hp, rfl, _, _, rfl, _, _, rfl, _, _, rfl, rfl, ?_⟩
    refine ⟨_, rfl, _, rfl, _, rfl, _, rfl, ?_⟩
    rw [optV_non]
    have fin : ∀ (n : Option Int), numOf (VamacBase.withNumber (VamacBase.numberOf d + y) d) = n → 3 ≤ sizeLine ∧ ∀ q, H q = none → Q (.ref q) (upd H q (.tup [.int (kindOf d), optV (fldOf d), optV n])) := fun n e =>
      ⟨by decide, fun q hq => hQ _ _ (Same.new hq) ⟨q, rfl, by
        rw [upd_same]
        unfold deedV
        rw [kind_with, fld_with, e]⟩⟩
    cases hn : numOf d with
    | none => exact iteT (fin none ((congrArg numOf ((numOf_none hn).2.2 _)).trans hn))
    | some z =>
      obtain ⟨e1, e2⟩ := numOf_some hn
      refine iteF ⟨_, rfl, _, rfl, _, _, rfl, rfl, ?_⟩
      refine fin (some (z + y)) ?_
      rw [num_with _ e2, e1]
/-- deed_told -/
def spDeedTold : Sp := fun vs H Q _ => ∃ (v : V) (d : Deed), vs = [v] ∧ DeedAt H d v ∧ ∀ H' p, Same H H' → H p = none → H' p = some (.lst ((flatDeed d).map V.int)) → Q (.ref p) H'
theorem flat_parts (d : Deed) : (flatDeed d).map V.int = (deedV d).filter fun v => !decide (v = .non) := by
  cases d <;> rfl
theorem sc_deed_told : FnScope ["deed", "part"] ["deed"] (defScope s_deed_told) := ⟨rfl, rfl, rfl, by decide +kernel, rfl, by decide +kernel, by decide +kernel⟩
theorem ok_deed_told {P : Program} {w : World} {K : PySem.W.Frag} {mg : Str → Option Value} {base : Heap} (T : Txt K mg) : FnOk P w K mg base CX0 1 T.deed_told.f T.deed_told.fd ["deed"] (spDeedTold) := by
  refine T.deed_told.F.ok sc_deed_told (fun vs H Q E h => ?_) (fun cdv A outer s H vs Q E hr h => ⟨_, (pss_one (ps_ret (pe_lc (own := [("part", 1)]) rfl sc_deed_told.nd (pi_tupK (K := K) (pv 0)) (blkOk_by (N := ["deed", "part"]) (sc := defScope s_deed_told) (by decide +kernel)) (fun _ _ _ _ _ => (pg_name (i := 1) sc_deed_told.nd rfl (Or.inl rfl))) (fun _ _ _ _ _ => (pts_one (pt_cmp (pc_notN (pv 1))))) (fun _ _ _ _ _ => (pv 1))))), ?_⟩)
  · obtain ⟨v, d, rfl, _⟩ := h
    rfl
  · obtain ⟨v, d, rfl, ⟨p, rfl, hp⟩, hQ⟩ := h
    refine r_ret ⟨_, rfl, p, rfl, ⟨_, SqT.of hp⟩, fun D hD => ?_⟩
    refine lc_tup (K := K) (a := p) (xs := deedV d) (fun i H' => Same H H' ∧ H' D = some (.lst (((deedV d).take i).filter fun v => !decide (v = .non)))) ⟨Same.new hD, upd_same⟩ (fun i H' _ h' => SqT.of (h'.1 _ _ hp)) ?_ ?_
    · rintro i x H' hi ⟨s1, h1⟩
      refine ⟨rfl, _, rfl, _, rfl, ?_⟩
      have et : (deedV d).take (i + 1) = (deedV d).take i ++ [x] := by rw [List.take_succ, hi]; rfl
      have hl : i < 3 := by
        have := (List.getElem?_eq_some_iff.mp hi).1
        exact this
      cases hx : decide (x = V.non) with
      | true =>
        refine iteF ⟨s1, ?_⟩
        rw [h1, et, List.filter_append]
        simp [of_decide_eq_true hx]
      | false =>
        refine iteT ⟨_, rfl, _, h1, ?_, Same.mut s1 hD, ?_⟩
        · refine small1000 ?_
          refine Nat.le_trans (List.length_filter_le _ _) ?_
          rw [List.length_take]
          omega
        · rw [upd_same, et, List.filter_append]
          have : ¬ x = V.non := of_decide_eq_false hx
          simp [this]
    · rintro H' ⟨s1, h1⟩
      refine hQ H' D s1 hD ?_
      rw [h1, flat_parts, List.take_length]
end My
namespace My
open PySem PySem.Spec PyProof.Rows L2
open VamacBase (Deed Prog Table Reader readDeed readTimes whole readListed flatDeed flatDeeds)
theorem flat_le (d : Deed) : (flatDeed d).length ≤ 3 := by cases d <;> simp [flatDeed]
theorem flats_le : ∀ ds : List Deed, (ds.flatMap flatDeed).length ≤ 3 * ds.length
  | [] => by simp
  | d :: ds => by
    have := flats_le ds
    have := flat_le d
    rw [List.flatMap_cons, List.length_append, List.length_cons]
    omega
/-- deeds_told -/
def spDeedsTold : Sp := fun vs H Q _ => ∃ (v : V) (ds : List Deed), vs = [v] ∧ DeedsAt H ds v ∧ ds.length ≤ 1000 ∧ ∀ H' p, Same H H' → H p = none → H' p = some (.lst ((flatDeeds ds).map V.int)) → Q (.ref p) H'
theorem sc_deeds_told : FnScope ["deeds", "found", "deed"] ["deeds"] (defScope s_deeds_told) := ⟨rfl, rfl, rfl, by decide +kernel, rfl, by decide +kernel, by decide +kernel⟩
theorem ok_deeds_told {P : Program} {w : World} {K : PySem.W.Frag} {mg : Str → Option Value} {base : Heap} (T : Txt K mg) : FnOk P w K mg base CX0 2 T.deeds_told.f T.deeds_told.fd ["deeds"] (spDeedsTold) := by
  refine T.deeds_told.F.ok sc_deeds_told (fun vs H Q E h => ?_) (fun cdv A outer s H vs Q E hr h => ⟨_, (pss_cons (ps_set (i := 1) sc_deeds_told.nd rfl (Or.inl rfl) (pe_lst (by exact (pa_cons (pe_callB (call_lenK (K := K)) (by rfl) T.z_len PySem.boot_len (by exact (pa_cons (pv 0) pa_nil))) pa_nil))))
    (pss_cons (ps_for PassesOwn.never rfl (pi_listK (K := K) (pv 0)) (pg_name (i := 2) sc_deeds_told.nd rfl (Or.inl rfl))
    (pss_one (ps_expr (pe_bm PySem.F.plainAttrs_list PySem.F.slot_list_extend PySem.F.type_list_extend mt_extend (pv 1) (by exact (pa_cons (pe_call (ok_deed_told T) (hr.mono (by decide)) rfl T.deed_told.g T.deed_told.k T.deed_told.b .nil pass0 (by exact (pa_cons (pv 2) pa_nil))) pa_nil))))))
    (pss_one (ps_ret (pv 1))))), ?_⟩)
  · obtain ⟨v, ds, rfl, _⟩ := h
    rfl
  · obtain ⟨v, ds, rfl, ⟨a, xs, rfl, ha, hx⟩, hl, hQ⟩ := h
    refine r_set ⟨_, rfl, a, xs, rfl, .inl (SqL.of ha), by show 1 ≤ sizeLine; decide, fun L hL => ?_⟩
    rw [← hx.1]
    refine ⟨_, rfl, a, rfl, ⟨xs, SqL.of ((Same.new hL) _ _ ha)⟩, for_list (K := K) (a := a) (xs := xs) (fun i σ H' => ∃ v, σ = [some (.ref a), some (.ref L), v] ∧ Same H H' ∧ H' L = some (.lst (((ds.length : Int) :: (ds.take i).flatMap flatDeed).map V.int)))
      ⟨none, rfl, Same.new hL, upd_same⟩ (fun i σ H' _ ⟨_, _, s1, _⟩ => SqL.of (s1 _ _ ha)) ?_ ?_⟩
    · rintro i x σ H' hi ⟨v, rfl, s1, h1⟩
      obtain ⟨d, hd, hR⟩ := hx.getV hi
      refine ⟨_, rfl, tyL h1, _, rfl, x, d, rfl, hR.same s1, fun H2 p s2 np hp => ?_⟩
      refine ⟨L, p, _, _, rfl, rfl, s2 _ _ h1, hp, ?_, some x, rfl, fun b o e => ?_, ?_⟩
      · have h1 := flats_le (ds.take i)
        have h2 := flat_le d
        have h3 : (ds.take i).length ≤ ds.length := by rw [List.length_take]; omega
        rw [List.length_map, List.length_cons, List.length_map]
        exact Nat.le_of_lt (Nat.lt_of_le_of_lt (by omega : _ ≤ 4004) (by decide))
      · rw [upd_ne (ne_of_none e hL)]
        exact s2 _ _ (s1 _ _ e)
      · rw [upd_same, take_one hd, List.flatMap_append, ← List.map_append]
        simp
    · rintro σ H' ⟨v, rfl, s1, h1⟩
      rw [← hx.1, List.take_length] at h1
      exact ⟨_, rfl, hQ H' L s1 hL h1⟩
/-! ### step_of -/
def optD : Option Int → PyData
  | none => .none
  | some i => .int i
theorem dp_opt {K : PySem.W.Frag} {H : Hp} (o : Option Int) : Dp K H (optV o) (optD o) := by cases o with
  | none => exact .non
  | some i => exact .int i
theorem beq_dec (a b : Int) : (a == b) = decide (a = b) := by exact rfl
theorem eqv_opt (a b : Option Int) : PyData.eqv (optD a) (optD b) = decide (a = b) := by
  cases a <;> cases b <;> simp [optD, PyData.eqv, beq_dec]
theorem eqv_head (a b : Deed) : PyData.eqv (.tuple [.int (kindOf a), optD (fldOf a)]) (.tuple [.int (kindOf b), optD (fldOf b)]) = alike a b := by
  simp [PyData.eqv, PyData.eqvAll, eqv_opt, alike, beq_dec]
theorem dp_head {K : PySem.W.Frag} {H : Hp} {p : Addr} {d : Deed} (h : H p = some (.tup [.int (kindOf d), optV (fldOf d)])) : Dp K H (.ref p) (.tuple [.int (kindOf d), optD (fldOf d)]) :=
  .tup (SqT.of h) (.cons (.int _) (.cons (dp_opt _) .nil))
theorem cut_head (d : Deed) : cutV (deedV d) none (some 2) = [.int (kindOf d), optV (fldOf d)] := rfl
theorem shaped_head (d : Deed) : SeqAt.shaped (.tuple [.int (kindOf d), optD (fldOf d)]) = true := by
  cases fldOf d <;> rfl
/-- the tests of the last comprehension -/
def growsL (a : Deed) (s : Int) : Nat → List Deed → List Bool
  | _, [] => []
  | k, d :: r => (!decide (numOf d = some (VamacBase.numberOf a + (k : Int) * s))) :: growsL a s (k + 1) r
theorem growsL_any (a : Deed) (s : Int) : ∀ (l : List Deed) (k : Nat), (growsL a s k l).any id = !grows a s k l
  | [], _ => rfl
  | d :: r, k => by
    show ((!decide (numOf d = some (VamacBase.numberOf a + (k : Int) * s))) || (growsL a s (k + 1) r).any id) = !(decide (numOf d = some (VamacBase.numberOf a + (k : Int) * s)) && grows a s (k + 1) r)
    rw [growsL_any a s r (k + 1), Bool.not_and]
theorem growsL_len (a : Deed) (s : Int) : ∀ (l : List Deed) (k : Nat), (growsL a s k l).length = l.length
  | [], _ => rfl
  | d :: r, k => congrArg (· + 1) (growsL_len a s r (k + 1))
theorem growsL_get (a : Deed) (s : Int) : ∀ (l : List Deed) (k i : Nat) (d : Deed), l[i]? = some d → (growsL a s k l)[i]? = some (!decide (numOf d = some (VamacBase.numberOf a + ((k + i : Nat) : Int) * s)))
  | [], _, _, _, h => by simp at h
  | e :: r, k, 0, d, h => by
    have h : e = d := by simpa using h
    subst h
    rfl
  | e :: r, k, i + 1, d, h => by
    have := growsL_get a s r (k + 1) i d (by simpa using h)
    have e1 : k + 1 + i = k + (i + 1) := by omega
    rw [e1] at this
    exact this
def spStep : Sp := fun vs H Q _ => ∃ (v : V) (ds : List Deed), vs = [v] ∧ DeedsAt H ds v ∧ ds ≠ [] ∧ ds.length ≤ 1000 ∧ ∀ H', Same H H' → Q (optV (Vamacb.stepOf ds)) H'
theorem sc_step_of : FnScope ["deeds", "step", "deed", "k"] ["deeds"] (defScope s_step_of) := ⟨rfl, rfl, rfl, by decide +kernel, rfl, by decide +kernel, by decide +kernel⟩
theorem ok_step_of {P : Program} {w : World} {K : PySem.W.Frag} {mg : Str → Option Value} {base : Heap} (T : Txt K mg) : FnOk P w K mg base CX0 1 T.step_of.f T.step_of.fd ["deeds"] (spStep) := by
  refine T.step_of.F.ok sc_step_of (fun vs H Q E h => ?_) (fun cdv A outer s H vs Q E hr h => ⟨_, (pss_cons (ps_if (pt_val (pe_callB (cr_anyK (K := K) rfl) (by rfl) T.z_any (by decide +kernel) (by exact (pa_cons (pe_lc (own := [("deed", 2)]) rfl sc_step_of.nd (pi_listK (K := K) (pv 0)) (blkOk_by (N := ["deeds", "step", "deed", "k"]) (sc := defScope s_step_of) (by decide +kernel)) (fun _ _ _ _ _ => (pg_name (i := 2) sc_step_of.nd rfl (Or.inl rfl))) (fun _ _ _ _ _ => pts_nil) (fun _ _ _ _ _ => (pe_cmpR (op_neDK (K := K) hr.units) (pe_slice (sl_tupK (K := K)) (pv 2) po_none (po_some pe_int)) (pe_slice (sl_tupK (K := K)) (pe_ix (ix_listK (K := K)) (pv 0) pe_int (fun _ _ => rfl)) po_none (po_some pe_int)) (nomark _)))) pa_nil))))
    (pss_one (ps_ret pe_non))
    pss_nil)
    (pss_cons (ps_if (PW.pt (pw_or (pt_cmpR op_eq (pe_callB (call_lenK (K := K)) (by rfl) T.z_len PySem.boot_len (by exact (pa_cons (pv 0) pa_nil))) pe_int (nomark _)) (pw_or1 (pt_cmp (pc_isN (pe_ix (ix_tupK (K := K)) (pe_ix (ix_listK (K := K)) (pv 0) pe_int (fun _ _ => rfl)) pe_int (fun _ _ => rfl)))))))
    (pss_one (ps_ret pe_int))
    pss_nil)
    (pss_cons (ps_set (i := 1) sc_step_of.nd rfl (Or.inr rfl) (pe_op op_sub (pe_ix (ix_tupK (K := K)) (pe_ix (ix_listK (K := K)) (pv 0) pe_int (fun _ _ => rfl)) pe_int (fun _ _ => rfl)) (pe_ix (ix_tupK (K := K)) (pe_ix (ix_listK (K := K)) (pv 0) pe_int (fun _ _ => rfl)) pe_int (fun _ _ => rfl))))
    (pss_cons (ps_if (PW.pt (pw_or (pt_cmpR op_gt (pe_callB call_abs (by rfl) T.z_abs (by decide +kernel) (by exact (pa_cons (pv 1) pa_nil))) (pe_cst (by rfl) T.c_MOST) (nomark _)) (pw_or1 (pt_val (pe_callB (cr_anyK (K := K) rfl) (by rfl) T.z_any (by decide +kernel) (by exact (pa_cons (pe_lc (own := [("k", 3), ("deed", 2)]) rfl sc_step_of.nd (pi_enumK (K := K) (by rfl) T.z_enumerate (by exact (pa_cons (pv 0) pa_nil))) (blkOk_by (N := ["deeds", "step", "deed", "k"]) (sc := defScope s_step_of) (by decide +kernel)) (fun _ _ _ _ _ => (pg_tupK (K := K) (n := 2) (by rfl) (pgs_cons (pg_name (i := 3) sc_step_of.nd rfl (Or.inl rfl)) (pgs_cons (pg_name (i := 2) sc_step_of.nd rfl (Or.inl rfl)) pgs_nil)))) (fun _ _ _ _ _ => pts_nil) (fun _ _ _ _ _ => (pe_cmpR op_ne (pe_ix (ix_tupK (K := K)) (pv 2) pe_int (fun _ _ => rfl)) (pe_op op_add (pe_ix (ix_tupK (K := K)) (pe_ix (ix_listK (K := K)) (pv 0) pe_int (fun _ _ => rfl)) pe_int (fun _ _ => rfl)) (pe_op op_mul (pv 3) (pv 1))) (nomark _)))) pa_nil)))))))
    (pss_one (ps_ret pe_non))
    pss_nil)
    (pss_one (ps_ret (pv 1))))))), ?_⟩)
  · obtain ⟨v, ds, rfl, _⟩ := h
    rfl
  · obtain ⟨v, ds, rfl, ⟨a, xs, rfl, ha, hx⟩, hne, hl, hQ⟩ := h
    rw [step_py] at hQ
    obtain ⟨d0, r0, rfl⟩ := List.exists_cons_of_ne_nil hne
    obtain ⟨v0, ws, rfl, ⟨p0, rfl, h0⟩, hws⟩ := hx.of_cons
    -- any([deed[:2] != deeds[0][:2] for deed in deeds])
    refine r_if ⟨_, rfl, a, rfl, ⟨_, SqL.of ha⟩, fun D hD => ?_⟩
    refine lc_list (K := K) (a := a) (xs := .ref p0 :: ws) (fun i H' => Same H H' ∧ H' D = some (.lst ((((d0 :: r0).take i).map fun d => !alike d d0).map V.bl))) ⟨Same.new hD, upd_same⟩ (fun i H' _ h' => SqL.of (h'.1 _ _ ha)) ?_ ?_
    · rintro i x H' hi ⟨s1, h1⟩
      obtain ⟨d, hd, p, rfl, hp⟩ := hx.getV hi
      have hil : i < (d0 :: r0).length := (List.getElem?_eq_some_iff.mp hd).1
      refine ⟨rfl, _, rfl, 2, rfl, p, _, rfl, SqT.of (s1 _ _ hp), cut2 _, fun q1 n1 => ?_⟩
      have s2 := Same.new (o := .tup (cutV (deedV d) none (some 2))) n1
      refine ⟨_, rfl, a, _, 0, _, rfl, rfl, SqL.of (s2 _ _ (s1 _ _ ha)), at0, 2, rfl, p0, _, rfl, SqT.of (s2 _ _ (s1 _ _ h0)), cut2 _, fun q2 n2 => ?_⟩
      have s3 := Same.new (o := .tup (cutV (deedV d0) none (some 2))) n2
      refine ⟨_, _, dp_head (d := d) (s3 _ _ (by rw [upd_same, cut_head])), dp_head (d := d0) (by rw [upd_same, cut_head]), shaped_head _, shaped_head _, ?_⟩
      rw [eqv_head]
      refine ⟨_, s3 _ _ (s2 _ _ h1), ?_, Same.mut (s1.trans (s2.trans s3)) hD, ?_⟩
      · rw [List.length_map, List.length_map, List.length_take]
        exact small1000 (by omega)
      · rw [upd_same, take_one hd, List.map_append, List.map_append]
        rfl
    · rintro H1 ⟨s1, h1⟩
      have el : (V.ref p0 :: ws).length = (d0 :: r0).length := hx.1.symm
      rw [el, List.take_length] at h1
      refine ⟨D, _, rfl, SqL.of h1, _, rfl, ?_⟩
      rw [List.any_map]
      have ec : (id ∘ fun d => !alike d d0) = fun d => !alike d d0 := rfl
      rw [ec]
      cases hany : (d0 :: r0).any (fun d => !alike d d0) with
      | true =>
        refine iteT (r_ret ?_)
        have := hQ H1 s1
        have e : stepPy (d0 :: r0) = none := if_pos hany
        rw [e] at this
        exact this
      | false =>
        refine iteF ?_
        -- len(deeds) == 1 or deeds[0][2] is None
        have hall : ∀ d ∈ d0 :: r0, kindOf d = kindOf d0 ∧ fldOf d = fldOf d0 := fun d hd => by
          have := List.any_eq_false.mp hany d hd
          exact alike_iff.mp (by simpa using this)
        refine ⟨_, rfl, a, _, rfl, .inl (SqL.of (s1 _ _ ha)), rfl, _, rfl, ?_⟩
        cases r0 with
        | nil =>
          rw [decide_eq_true (by rw [el]; rfl)]
          refine iteT (iteT ?_)
          have e : stepPy [d0] = some 0 := if_neg (by rw [hany]; decide)
          rw [e] at hQ
          exact hQ H1 s1
        | cons d1 r =>
          rw [decide_eq_false (by rw [el]; intro z; injection z with z; simp at z; omega)]
          refine iteF ⟨_, rfl, a, _, 0, _, rfl, rfl, SqL.of (s1 _ _ ha), at0, p0, _, 2, _, rfl, rfl, SqT.of (s1 _ _ h0), at2, _, rfl, ?_⟩
          rw [optV_non]
          have hd1 := hall d1 (by simp)
          have hk := num_kind hd1.1
          cases e0 : numOf d0 with
          | none =>
            refine iteT ?_
            have e : stepPy (d0 :: d1 :: r) = some 0 := (if_neg (by rw [hany]; decide)).trans (if_pos (numOf_none e0).2.1)
            rw [e] at hQ
            exact hQ H1 s1
          | some v0 =>
            obtain ⟨n0, hn0⟩ := numOf_some e0
            obtain ⟨v1, e1⟩ : ∃ v, numOf d1 = some v := by
              cases e : numOf d1 with
              | none => rw [(numOf_none e).2.1, hn0] at hk; cases hk
              | some v => exact ⟨v, rfl⟩
            obtain ⟨n1, hn1⟩ := numOf_some e1
            have e : stepPy (d0 :: d1 :: r) = if 999 < (v1 - v0).natAbs ∨ grows d0 (v1 - v0) 0 (d0 :: d1 :: r) = false then none else some (v1 - v0) := by
              rw [← n0, ← n1]
              exact (if_neg (by rw [hany]; decide)).trans (if_neg (by rw [hn0]; decide))
            rw [e] at hQ
            obtain ⟨u1, ws1, rfl, ⟨p1, rfl, h1'⟩, _⟩ := hws.of_cons
            have t0 : (deedV d0)[2]? = some (.int v0) := by show some (optV (numOf d0)) = _; rw [e0]; rfl
            have t1 : (deedV d1)[2]? = some (.int v1) := by show some (optV (numOf d1)) = _; rw [e1]; rfl
            refine iteF ⟨_, rfl, a, _, 1, _, rfl, rfl, SqL.of (s1 _ _ ha), at1, p1, _, 2, _, rfl, rfl, SqT.of (s1 _ _ h1'), atI_nat (j := 2) t1, _, rfl, a, _, 0, _, rfl, rfl, SqL.of (s1 _ _ ha), at0, p0, _, 2, _, rfl, rfl, SqT.of (s1 _ _ h0), atI_nat (j := 2) t0, v1, v0, rfl, rfl, ?_⟩
            refine ⟨_, rfl, v1 - v0, rfl, _, 999, rfl, rfl, _, rfl, ?_⟩
            have eab : decide ((999 : Int) < (if v1 - v0 < 0 then -(v1 - v0) else v1 - v0)) = decide (999 < (v1 - v0).natAbs) := by
              apply decide_eq_decide.mpr
              split <;> omega
            rw [eab]
            by_cases hb : 999 < (v1 - v0).natAbs
            · rw [decide_eq_true hb]
              refine iteT (iteT ?_)
              rw [if_pos (Or.inl hb)] at hQ
              exact hQ H1 s1
            · rw [decide_eq_false hb]
              refine iteF ⟨_, rfl, a, _, rfl, SqL.of (s1 _ _ ha), fun D2 n2 => ?_⟩
              have e2 : (V.ref p0 :: V.ref p1 :: ws1).length = (d0 :: d1 :: r).length := el
              refine lc_it (walk_enum (K := K) (a := a) (xs := .ref p0 :: .ref p1 :: ws1)) (fun i H' => Same H H' ∧ H' D2 = some (.lst (((growsL d0 (v1 - v0) 0 (d0 :: d1 :: r)).take i).map V.bl))) ⟨s1.trans (Same.new n2), upd_same⟩ (fun i H' _ h' => SqL.of (h'.1 _ _ ha)) ?_ ?_
              · rintro i x H2 H3 hi ⟨s2, g2⟩ ⟨T0, ki, y, rfl, nT, rfl, ek, ey⟩
                obtain rfl : V.int (i : Nat) = ki := Option.some.inj ek
                obtain ⟨d, hd, p, rfl, hp⟩ := hx.getV ey
                have hm : d ∈ d0 :: d1 :: r := List.mem_of_getElem? hd
                obtain ⟨v, ev⟩ : ∃ v, numOf d = some v := by
                  cases e : numOf d with
                  | none => have := num_kind (hall d hm).1; rw [(numOf_none e).2.1, hn0] at this; cases this
                  | some v => exact ⟨v, rfl⟩
                have tv : (deedV d)[2]? = some (.int v) := by show some (optV (numOf d)) = _; rw [ev]; rfl
                have s3 := Same.new (o := .tup [.int (i : Nat), .ref p]) nT
                have s4 := s2.trans s3
                refine ⟨T0, _, rfl, SqT.of upd_same, rfl, _, _, rfl, _, _, rfl, rfl, rfl, ?_⟩
                refine ⟨_, rfl, p, _, 2, _, rfl, rfl, SqT.of (s4 _ _ hp), atI_nat (j := 2) tv, _, rfl, a, _, 0, _, rfl, rfl, SqL.of (s4 _ _ ha), at0, p0, _, 2, _, rfl, rfl, SqT.of (s4 _ _ h0), atI_nat (j := 2) t0, _, rfl, _, rfl, i, v1 - v0, rfl, rfl, .inl ⟨by omega, by omega⟩, v0, _, rfl, rfl, rfl, ?_⟩
                refine ⟨_, s3 _ _ g2, ?_, Same.mut s4 ((Dom.of s1).none n2), ?_⟩
                · rw [List.length_map, List.length_take, growsL_len]
                  exact small1000 (by omega)
                · rw [upd_same, take_one (growsL_get d0 (v1 - v0) _ 0 i d hd), List.map_append, ev, Nat.zero_add, (numOf_some e0).1]
                  have ed : decide (V.int v = V.int (v0 + (i : Nat) * (v1 - v0))) = decide (some v = some (v0 + (i : Nat) * (v1 - v0))) := by
                    apply decide_eq_decide.mpr
                    rw [V.int.injEq, Option.some.injEq]
                  show some (HO.lst (_ ++ [V.bl !decide (V.int v = V.int (v0 + (i : Nat) * (v1 - v0)))])) = _
                  rw [ed]
                  rfl
              · rintro H2 ⟨s2, g2⟩
                rw [e2, ← growsL_len d0 (v1 - v0) (d0 :: d1 :: r) 0, List.take_length] at g2
                refine ⟨D2, _, rfl, SqL.of g2, _, rfl, ?_⟩
                rw [growsL_any]
                cases hg : grows d0 (v1 - v0) 0 (d0 :: d1 :: r) with
                | true =>
                  rw [if_neg (by rintro (z | z); exact hb z; rw [hg] at z; cases z)] at hQ
                  exact iteF ⟨_, rfl, hQ _ s2⟩
                | false =>
                  rw [if_pos (Or.inr hg)] at hQ
                  exact iteT (hQ _ s2)
end My
namespace My
open PySem PySem.Spec PyProof.Rows L2
open VamacBase (Deed Prog Table Reader readDeed readTimes whole readListed flatDeed flatDeeds readProg)
/-! ### what tuples and lists of a heap stand in another -/
def Kept (H H' : Hp) : Prop := ∀ b xs, (H b = some (.tup xs) → H' b = some (.tup xs)) ∧ (H b = some (.lst xs) → H' b = some (.lst xs))
theorem Kept.of {H H' : Hp} (e : Same H H') : Kept H H' := fun b xs => ⟨fun h => e _ _ h, fun h => e _ _ h⟩
theorem Kept.ins {H H' : Hp} {a : Addr} (e : But a H H') (h : ∃ C dx fs, H a = some (.ins C dx fs)) : Kept H H' := fun b xs => by
  obtain ⟨C, dx, fs, h⟩ := h
  exact ⟨fun g => e _ _ g (ne_of g h (by intro z; cases z)), fun g => e _ _ g (ne_of g h (by intro z; cases z))⟩
theorem Kept.deed {H H' : Hp} (e : Kept H H') {d : Deed} {v : V} (h : DeedAt H d v) : DeedAt H' d v := let ⟨p, a, b⟩ := h; ⟨p, a, (e _ _).1 b⟩
/-! ### rows of pieces in a heap -/
def RowsAt (H : Hp) : Prog → List V → Prop
  | .done, vs => vs = []
  | .deed d s r, vs => ∃ q dv ws, vs = V.ref q :: ws ∧ H q = some (.tup [.int 0, dv, .int s]) ∧ DeedAt H d dv ∧ RowsAt H r ws
  | .times n b r, vs => ∃ q a xs ws, vs = V.ref q :: ws ∧ H q = some (.tup [.int 1, .int (n : Nat), .ref a]) ∧ H a = some (.lst xs) ∧ RowsAt H b xs ∧ RowsAt H r ws
  | .toEnd b r, vs => ∃ q a xs ws, vs = V.ref q :: ws ∧ H q = some (.tup [.int 2, .ref a]) ∧ H a = some (.lst xs) ∧ RowsAt H b xs ∧ RowsAt H r ws
  | .when f v b r, vs => ∃ q a xs ws, vs = V.ref q :: ws ∧ H q = some (.tup [.int 3, .int (f : Nat), .int v, .ref a]) ∧ H a = some (.lst xs) ∧ RowsAt H b xs ∧ RowsAt H r ws
/-- a row: a list of pieces -/
def RowAt (H : Hp) (p : Prog) (v : V) : Prop := ∃ a vs, v = .ref a ∧ H a = some (.lst vs) ∧ RowsAt H p vs
/-- a piece: a tuple -/
def PcAt (H : Hp) : Pc → V → Prop
  | .deed d s, v => ∃ q dv, v = .ref q ∧ H q = some (.tup [.int 0, dv, .int s]) ∧ DeedAt H d dv
  | .times n b, v => ∃ q bv, v = .ref q ∧ H q = some (.tup [.int 1, .int (n : Nat), bv]) ∧ RowAt H b bv
  | .toEnd b, v => ∃ q bv, v = .ref q ∧ H q = some (.tup [.int 2, bv]) ∧ RowAt H b bv
  | .when f x b, v => ∃ q bv, v = .ref q ∧ H q = some (.tup [.int 3, .int (f : Nat), .int x, bv]) ∧ RowAt H b bv
theorem Kept.rows {H H' : Hp} (e : Kept H H') : ∀ (p : Prog) (vs : List V), RowsAt H p vs → RowsAt H' p vs
  | .done, vs, h => h
  | .deed d s r, vs, ⟨q, dv, ws, h1, h2, h3, h4⟩ => ⟨q, dv, ws, h1, (e _ _).1 h2, e.deed h3, e.rows r ws h4⟩
  | .times n b r, vs, ⟨q, a, xs, ws, h1, h2, h3, h4, h5⟩ => ⟨q, a, xs, ws, h1, (e _ _).1 h2, (e _ _).2 h3, e.rows b xs h4, e.rows r ws h5⟩
  | .toEnd b r, vs, ⟨q, a, xs, ws, h1, h2, h3, h4, h5⟩ => ⟨q, a, xs, ws, h1, (e _ _).1 h2, (e _ _).2 h3, e.rows b xs h4, e.rows r ws h5⟩
  | .when f v b r, vs, ⟨q, a, xs, ws, h1, h2, h3, h4, h5⟩ => ⟨q, a, xs, ws, h1, (e _ _).1 h2, (e _ _).2 h3, e.rows b xs h4, e.rows r ws h5⟩
theorem Kept.row {H H' : Hp} (e : Kept H H') {p : Prog} {v : V} (h : RowAt H p v) : RowAt H' p v := let ⟨a, vs, h1, h2, h3⟩ := h; ⟨a, vs, h1, (e _ _).2 h2, e.rows p vs h3⟩
theorem Kept.pc {H H' : Hp} (e : Kept H H') {c : Pc} {v : V} (h : PcAt H c v) : PcAt H' c v := by
  cases c with
  | deed d s => obtain ⟨q, dv, h1, h2, h3⟩ := h; exact ⟨q, dv, h1, (e _ _).1 h2, e.deed h3⟩
  | times n b => obtain ⟨q, dv, h1, h2, h3⟩ := h; exact ⟨q, dv, h1, (e _ _).1 h2, e.row h3⟩
  | toEnd b => obtain ⟨q, dv, h1, h2, h3⟩ := h; exact ⟨q, dv, h1, (e _ _).1 h2, e.row h3⟩
  | «when» f v b => obtain ⟨q, dv, h1, h2, h3⟩ := h; exact ⟨q, dv, h1, (e _ _).1 h2, e.row h3⟩
def pcsOf : Prog → List Pc
  | .done => []
  | .deed d s r => .deed d s :: pcsOf r
  | .times n b r => .times n b :: pcsOf r
  | .toEnd b r => .toEnd b :: pcsOf r
  | .when f v b r => .when f v b :: pcsOf r
theorem of_pcs : ∀ p : Prog, ofPcs (pcsOf p) = p
  | .done => rfl
  | .deed d s r => congrArg (Prog.deed d s) (of_pcs r)
  | .times n b r => congrArg (Prog.times n b) (of_pcs r)
  | .toEnd b r => congrArg (Prog.toEnd b) (of_pcs r)
  | .when f v b r => congrArg (Prog.when f v b) (of_pcs r)
theorem rows_of {H : Hp} : ∀ (l : List Pc) (vs : List V), All2 (PcAt H) l vs → RowsAt H (ofPcs l) vs
  | [], vs, h => All2.of_nil h
  | .deed d s :: l, vs, h => by
    obtain ⟨v, ws, rfl, ⟨q, dv, rfl, h2, h3⟩, h4⟩ := h.of_cons
    exact ⟨q, dv, ws, rfl, h2, h3, rows_of l ws h4⟩
  | .times n b :: l, vs, h => by
    obtain ⟨v, ws, rfl, ⟨q, dv, rfl, h2, a, xs, rfl, h3, h5⟩, h4⟩ := h.of_cons
    exact ⟨q, a, xs, ws, rfl, h2, h3, h5, rows_of l ws h4⟩
  | .toEnd b :: l, vs, h => by
    obtain ⟨v, ws, rfl, ⟨q, dv, rfl, h2, a, xs, rfl, h3, h5⟩, h4⟩ := h.of_cons
    exact ⟨q, a, xs, ws, rfl, h2, h3, h5, rows_of l ws h4⟩
  | .when f x b :: l, vs, h => by
    obtain ⟨v, ws, rfl, ⟨q, dv, rfl, h2, a, xs, rfl, h3, h5⟩, h4⟩ := h.of_cons
    exact ⟨q, a, xs, ws, rfl, h2, h3, h5, rows_of l ws h4⟩
theorem rows_to {H : Hp} : ∀ (p : Prog) (vs : List V), RowsAt H p vs → All2 (PcAt H) (pcsOf p) vs
  | .done, vs, h => by rw [show vs = [] from h]; exact All2.nil
  | .deed d s r, vs, ⟨q, dv, ws, h1, h2, h3, h4⟩ => by rw [h1]; exact All2.cons ⟨q, dv, rfl, h2, h3⟩ (rows_to r ws h4)
  | .times n b r, vs, ⟨q, a, xs, ws, h1, h2, h3, h4, h5⟩ => by rw [h1]; exact All2.cons ⟨q, .ref a, rfl, h2, a, xs, rfl, h3, h4⟩ (rows_to r ws h5)
  | .toEnd b r, vs, ⟨q, a, xs, ws, h1, h2, h3, h4, h5⟩ => by rw [h1]; exact All2.cons ⟨q, .ref a, rfl, h2, a, xs, rfl, h3, h4⟩ (rows_to r ws h5)
  | .when f v b r, vs, ⟨q, a, xs, ws, h1, h2, h3, h4, h5⟩ => by rw [h1]; exact All2.cons ⟨q, .ref a, rfl, h2, a, xs, rfl, h3, h4⟩ (rows_to r ws h5)
/-! ### readers, in one piece -/
structure Ct {A : Type} (K : PySem.W.Frag) (C Ref a b : Addr) (l : List Int) (H0 H : Hp) (E : XK) (R : A → Hp → V → Prop) (Q : VK) (o : Option (A × List Int)) : Prop where
  no : o = none → ErrB Ref a (-1) H E
  ok : ∀ x k' H' v, o = some (x, l.drop k') → But a H H' → NumAt K C H' a b l k' → R x (New H0 H') v → Q v H'
section
variable {A B : Type} {K : PySem.W.Frag} {C Ref a b : Addr} {l : List Int} {H0 H H1 : Hp} {E : XK} {R : A → Hp → V → Prop} {Q : VK} {o o' : Option (A × List Int)} {k : Nat} {σ : L2.St}
theorem Ct.mono (c : Ct K C Ref a b l H0 H E R Q o) (h : But a H H1) (e : o = o') : Ct K C Ref a b l H0 H1 E R Q o' := by
  subst e
  exact ⟨fun z => (c.no z).mono h, fun x k' H' v z b => c.ok x k' H' v z (h.trans b)⟩
theorem Ct.at_ (c : Ct K C Ref a b l H0 H E R Q o) (e : o = o') : Ct K C Ref a b l H0 H E R Q o' := by
  subst e
  exact c
/-- numbers.take(lo, hi), and on with F -/
theorem take_ct {lo hi : Int} {i : Nat} {QQ : VK} {t1 t2 : TE} (h0 : σ[i]? = some (some (.ref a))) (N : NumAt K C H a b l k) (h1 : ∀ (Q : VK), Q (.int lo) H → t1 σ H Q) (h2 : ∀ (Q : VK), Q (.int hi) H → t2 σ H Q)
    (F : Int × List Int → Option (A × List Int)) (c : Ct K C Ref a b l H0 H E R Q ((takeZ lo hi (l.drop k)).bind F))
    (hQ : ∀ z k' H', lo ≤ z → z ≤ hi → But a H H' → NumAt K C H' a b l k' → Ct K C Ref a b l H0 H' E R Q (F (z, l.drop k')) → QQ (.int z) H') :
    tMeth C "take" (spTake K C Ref) [] E (tVar i) (tCons t1 (tCons t2 tNil)) σ H QQ :=
  take_rd h0 N h1 h2 (fun z => c.no (by rw [z]; rfl)) fun z k' H' e bt N' => hQ z k' H' (takeZ_some e).2.1 (takeZ_some e).2.2 bt N' (c.mono bt (by rw [e]; rfl))
/-- a def that reads, and on with F -/
theorem call_ct {i : Nat} {QQ : VK} {rd : Reader B} {S : B → Hp → V → Prop} (h0 : σ[i]? = some (some (.ref a))) (N : NumAt K C H a b l k)
    (F : B × List Int → Option (A × List Int)) (c : Ct K C Ref a b l H0 H E R Q ((rd (l.drop k)).bind F))
    (hQ : ∀ x k' H' v, But a H H' → NumAt K C H' a b l k' → S x (New H H') v → Ct K C Ref a b l H0 H' E R Q (F (x, l.drop k')) → QQ v H') :
    tCall (spRd K C Ref rd S) [] E (tCons (tVar i) tNil) σ H QQ :=
  call_rd h0 N (fun z => c.no (by rw [z]; rfl)) fun x k' H' v e bt N' r => hQ x k' H' v bt N' r (c.mono bt (by rw [e]; rfl))
/-- a def that reads, so deep -/
def spRdD {A : Type} (K : PySem.W.Frag) (C Ref : Addr) (z : Int) (rd : Reader A) (R : A → Hp → V → Prop) : Sp := fun vs H Q E => ∃ (a b : Addr) (l : List Int) (k : Nat), vs = [.ref a, .int z] ∧ NumAt K C H a b l k ∧
  (rd (l.drop k) = none → ErrB Ref a (-1) H E) ∧
  (∀ x k' H' v, rd (l.drop k) = some (x, l.drop k') → But a H H' → NumAt K C H' a b l k' → R x (New H H') v → Q v H')
theorem callD_ct {i : Nat} {QQ : VK} {rd : Reader B} {S : B → Hp → V → Prop} {z : Int} {t1 : TE} (h0 : σ[i]? = some (some (.ref a))) (h1 : ∀ (Q : VK), Q (.int z) H → t1 σ H Q) (N : NumAt K C H a b l k)
    (F : B × List Int → Option (A × List Int)) (c : Ct K C Ref a b l H0 H E R Q ((rd (l.drop k)).bind F))
    (hQ : ∀ x k' H' v, But a H H' → NumAt K C H' a b l k' → S x (New H H') v → Ct K C Ref a b l H0 H' E R Q (F (x, l.drop k')) → QQ v H') :
    tCall (spRdD K C Ref z rd S) [] E (tCons (tVar i) (tCons t1 tNil)) σ H QQ := by
  refine ⟨_, h0, h1 _ ⟨a, b, l, k, rfl, N, fun z => c.no (by rw [z]; rfl), fun x k' H' v e bt N' r => hQ x k' H' v bt N' r (c.mono bt (by rw [e]; rfl))⟩⟩
theorem map_bnd {A B : Type} (o : Option A) (f : A → B) : o.map f = o.bind fun b => some (f b) := by cases o <;> rfl
theorem New.lift {H0 H1 H2 H4 : Hp} (d : But a H0 H1) (b : But a H2 H4) (ha : ∃ o, H0 a = some o) (h1 : ∃ o, H1 a = some o) : Same (New H1 H2) (New H0 H4) :=
  (New.more (Dom.but d h1)).trans (New.but b ha)
end
def spPiece (K : PySem.W.Frag) (C Ref : Addr) (j : Nat) : Sp := spRdD K C Ref (3 - (j : Int)) (rdPc (below j)) (fun c H v => PcAt H c v)
def spRow (K : PySem.W.Frag) (C Ref : Addr) : Nat → Sp
  | 0 => fun _ _ _ _ => False
  | j + 1 => spRdD K C Ref (3 - (j : Int)) (rdRow j) (fun p H v => RowAt H p v)
theorem sc_read_piece : FnScope ["numbers", "deep", "word", "deed", "rounds", "field", "number"] ["numbers", "deep"] (defScope s_read_piece) := ⟨rfl, rfl, rfl, by decide +kernel, rfl, by decide +kernel, by decide +kernel⟩
theorem piece_of {P : Program} {w : World} {K : PySem.W.Frag} {mg : Str → Option Value} {base : Heap} (T : Txt K mg) {j : Nat} (hj : j ≤ 3) (F : FnOk P w K mg base (L2.CX P w) (2 * j + 10) T.read_row.f T.read_row.fd ["numbers", "deep"] (spRow K T.Numbers.C T.Ref j)) : FnOk P w K mg base (L2.CX P w) (2 * j + 11) T.read_piece.f T.read_piece.fd ["numbers", "deep"] (spPiece K T.Numbers.C T.Ref j) := by
  refine T.read_piece.F.okX sc_read_piece (fun vs H Q E h => ?_) (fun cdv A outer s H vs Q E hr h => ⟨_, (pss_cons (ps_set (i := 2) sc_read_piece.nd rfl (Or.inl rfl) (pe_meth (pv 0) T.Numbers.cl T.Numbers_take.m (ok_Numbers_take T) (hr.mono (by omega)) T.Numbers_take.b .nil (passes_call (takes_of rfl rfl rfl rfl) fun _ _ _ _ h => h) (by exact (pa_cons (pe_cst (by rfl) T.c_DEED) (pa_cons (pe_cst (by rfl) T.c_PART) pa_nil)))))
    (pss_cons (ps_if (pt_cmpR op_eq (pv 2) (pe_cst (by rfl) T.c_DEED) (nomark _))
    (pss_cons (ps_set (i := 3) sc_read_piece.nd rfl (Or.inl rfl) (pe_call (ok_read_deed T) (hr.mono (by omega)) rfl T.read_deed.g T.read_deed.k T.read_deed.b .nil (passes_call (takes_of rfl rfl rfl rfl) fun _ _ _ _ h => h) (by exact (pa_cons (pv 0) pa_nil))))
    (pss_one (ps_ret (pe_tup (by exact (pa_cons (pe_cst (by rfl) T.c_DEED) (pa_cons (pv 3) (pa_cons (pe_ifExp (pt_cmp (pc_isN (pe_ix (ix_tupK (K := K)) (pv 3) pe_int (fun _ _ => rfl)))) pe_int (pe_meth (pv 0) T.Numbers.cl T.Numbers_take.m (ok_Numbers_take T) (hr.mono (by omega)) T.Numbers_take.b .nil (passes_call (takes_of rfl rfl rfl rfl) fun _ _ _ _ h => h) (by exact (pa_cons (pe_un un_neg (pe_cst (by rfl) T.c_MOST)) (pa_cons (pe_cst (by rfl) T.c_MOST) pa_nil))))) pa_nil))))))))
    pss_nil)
    (pss_cons (ps_expr (pe_call (ok_want T) (hr.mono (by omega)) rfl T.want.g T.want.k T.want.b .nil (passes_call (takes_of rfl rfl rfl rfl) fun _ _ _ _ h => h) (by exact (pa_cons (pe_cmpR op_lt (pv 1) (pe_cst (by rfl) T.c_MOST_DEEP) (nomark _)) (pa_cons (pe_cst (by rfl) T.c_BAD) pa_nil)))))
    (pss_cons (ps_if (pt_cmpR op_eq (pv 2) (pe_cst (by rfl) T.c_LOOP) (nomark _))
    (pss_cons (ps_set (i := 4) sc_read_piece.nd rfl (Or.inl rfl) (pe_meth (pv 0) T.Numbers.cl T.Numbers_take.m (ok_Numbers_take T) (hr.mono (by omega)) T.Numbers_take.b .nil (passes_call (takes_of rfl rfl rfl rfl) fun _ _ _ _ h => h) (by exact (pa_cons pe_int (pa_cons (pe_cst (by rfl) T.c_MOST_ROUNDS) pa_nil)))))
    (pss_one (ps_ret (pe_tup (by exact (pa_cons (pe_cst (by rfl) T.c_LOOP) (pa_cons (pv 4) (pa_cons (pe_call F (hr.mono (by omega)) rfl T.read_row.g T.read_row.k T.read_row.b .nil (passes_call (takes_of rfl rfl rfl rfl) fun _ _ _ _ h => h) (by exact (pa_cons (pv 0) (pa_cons (pe_op op_add (pv 1) pe_int) pa_nil)))) pa_nil))))))))
    pss_nil)
    (pss_cons (ps_if (pt_cmpR op_eq (pv 2) (pe_cst (by rfl) T.c_TO_END) (nomark _))
    (pss_one (ps_ret (pe_tup (by exact (pa_cons (pe_cst (by rfl) T.c_TO_END) (pa_cons (pe_call F (hr.mono (by omega)) rfl T.read_row.g T.read_row.k T.read_row.b .nil (passes_call (takes_of rfl rfl rfl rfl) fun _ _ _ _ h => h) (by exact (pa_cons (pv 0) (pa_cons (pe_op op_add (pv 1) pe_int) pa_nil)))) pa_nil))))))
    pss_nil)
    (pss_cons (ps_set (i := 5) sc_read_piece.nd rfl (Or.inl rfl) (pe_meth (pv 0) T.Numbers.cl T.Numbers_take.m (ok_Numbers_take T) (hr.mono (by omega)) T.Numbers_take.b .nil (passes_call (takes_of rfl rfl rfl rfl) fun _ _ _ _ h => h) (by exact (pa_cons pe_int (pa_cons (pe_cst (by rfl) T.c_LAST_FIELD) pa_nil)))))
    (pss_cons (ps_set (i := 6) sc_read_piece.nd rfl (Or.inl rfl) (pe_meth (pv 0) T.Numbers.cl T.Numbers_take.m (ok_Numbers_take T) (hr.mono (by omega)) T.Numbers_take.b .nil (passes_call (takes_of rfl rfl rfl rfl) fun _ _ _ _ h => h) (by exact (pa_cons (pe_un un_neg (pe_cst (by rfl) T.c_MOST)) (pa_cons (pe_cst (by rfl) T.c_MOST) pa_nil)))))
    (pss_one (ps_ret (pe_tup (by exact (pa_cons (pe_cst (by rfl) T.c_PART) (pa_cons (pv 5) (pa_cons (pv 6) (pa_cons (pe_call F (hr.mono (by omega)) rfl T.read_row.g T.read_row.k T.read_row.b .nil (passes_call (takes_of rfl rfl rfl rfl) fun _ _ _ _ h => h) (by exact (pa_cons (pv 0) (pa_cons (pe_op op_add (pv 1) pe_int) pa_nil)))) pa_nil))))))))))))))), ?_⟩)
  · obtain ⟨a, b, l, k, rfl, _⟩ := h
    rfl
  · obtain ⟨a, b, l, k, rfl, N, hE, hQ⟩ := h
    have c : Ct K T.Numbers.C T.Ref a b l H H E (fun c H v => PcAt H c v) Q (rdPc (below j) (l.drop k)) := ⟨hE, hQ⟩
    unfold rdPc at c
    refine r_set (take_ct (a := a) rfl N num_c num_c _ c fun w1 k1 H1 w0 w3 b1 N1 c1 => ?_)
    clear hE hQ c
    have lift : ∀ {H2 H3 H4 : Hp}, But a H H2 → (∃ o, H2 a = some o) → But a H3 H4 → Kept (New H2 H3) (New H H4) := fun h h1 h2 => Kept.of (New.lift h h2 N.some_ h1)
    have new : ∀ {H3 : Hp} {p : Addr}, But a H H3 → (∃ o, H3 a = some o) → H3 p = none → H p = none := fun h h1 h2 => (Dom.but h h1).none h2
    refine ⟨_, rfl, rfl, _, rfl, ?_⟩
    by_cases hw : w1 = 0
    · rw [decide_eq_true (by rw [hw])]
      have c2 := c1.at_ (if_pos hw)
      refine iteT (r_set (call_ct (a := a) rfl N1 _ c2 fun d k2 H2 dv b2 N2 r2 c3 => ?_))
      obtain ⟨pd, rfl, hd⟩ := r2
      have fin : ∀ (s : Int) (k3 : Nat) (H3 : Hp), But a H2 H3 → NumAt K T.Numbers.C H3 a b l k3 → Ct K T.Numbers.C T.Ref a b l H H3 E (fun c H v => PcAt H c v) Q (some (Pc.deed d s, l.drop k3)) →
          ∀ p, H3 p = none → Q (.ref p) (upd H3 p (.tup [.int 0, .ref pd, .int s])) := by
        intro s k3 H3 b3 N3 c4 p hp
        exact c4.ok _ k3 _ _ rfl (But.of (Same.new hp)) (N3.same (Same.new hp)) ⟨p, .ref pd, rfl, New.of (new ((b1.trans b2).trans b3) N3.some_ hp) upd_same, pd, rfl, ((lift b1 N1.some_ (b3.new hp)) _ _).1 hd⟩
      have hd2 := (New.out hd).2
      refine ⟨_, rfl, _, rfl, pd, _, 2, _, rfl, rfl, SqT.of hd2, at2, _, rfl, ?_⟩
      rw [optV_non]
      have hn := numOf_has d
      cases en : numOf d with
      | none =>
        rw [en] at hn
        have c4 := c3.at_ (show _ = some (Pc.deed d 0, l.drop k2) by simp only [← hn]; rfl)
        exact iteT ⟨by show 3 ≤ sizeLine; decide, fin 0 k2 H2 (But.refl _ _) N2 c4⟩
      | some v =>
        rw [en] at hn
        have c4 := c3.at_ (show _ = (takeZ (-999) 999 (l.drop k2)).bind (fun s => some (Pc.deed d s.1, s.2)) by simp only [← hn]; cases takeZ (-999) 999 (l.drop k2) <;> rfl)
        refine iteF (take_ct (a := a) rfl N2 num_neg num_c _ c4 fun z k3 H3 _ _ b3 N3 c5 => ?_)
        exact ⟨by show 3 ≤ sizeLine; decide, fin z k3 H3 b3 N3 c5⟩
    · rw [decide_eq_false (by intro z; injection z with z; exact hw z)]
      have c2 := c1.at_ (if_neg hw)
      refine iteF ⟨_, rfl, _, _, rfl, rfl, _, _, rfl, fun hj2 => ?_, fun hj2 => ?_⟩
      · cases j with
        | zero => simp at hj2
        | succ j =>
          have c2 := c2.at_ (show _ = if w1 = 1 then (takeZ 1 9 (l.drop k1)).bind fun n => (rdRow j n.2).bind fun b => some (Pc.times n.1.toNat b.1, b.2)
            else if w1 = 2 then (rdRow j (l.drop k1)).bind fun b => some (Pc.toEnd b.1, b.2)
            else (takeZ 0 2 (l.drop k1)).bind fun f => (takeZ (-999) 999 f.2).bind fun v => (rdRow j v.2).bind fun b => some (Pc.when f.1.toNat v.1 b.1, b.2) from by
              simp only [map_bnd]
              rfl)
          have hz : ∀ (σ : L2.St) (H : Hp), σ[1]? = some (some (.int (3 - ((j + 1 : Nat) : Int)))) → ∀ (Q : VK), Q (.int (3 - (j : Int))) H → tOp (rI0 fun i j => V.int (i + j)) (tVar 1) (tC (.int 1)) σ H Q := fun σ H hs Q q => by
            refine ⟨_, hs, _, _, rfl, rfl, ?_⟩
            have e : (3 - ((j + 1 : Nat) : Int)) + 1 = 3 - (j : Int) := by omega
            show Q (.int ((3 - ((j + 1 : Nat) : Int)) + 1)) H
            rw [e]
            exact q
          refine ⟨_, rfl, rfl, _, rfl, ?_⟩
          by_cases hw1 : w1 = 1
          · rw [decide_eq_true (by rw [hw1])]
            have c3 := c2.at_ (if_pos hw1)
            refine iteT (r_set (take_ct (a := a) rfl N1 num_c num_c _ c3 fun n k2 H2 n1 n9 b2 N2 c4 => ?_))
            refine ⟨_, rfl, callD_ct (z := 3 - (j : Int)) (rd := rdRow j) (S := fun p H v => RowAt H p v) (a := a) rfl (hz _ _ rfl) N2 _ c4 fun x k3 H3 v b3 N3 r c5 => ⟨by show 3 ≤ sizeLine; decide, fun p hp => ?_⟩⟩
            have en : ((n.toNat : Nat) : Int) = n := Int.toNat_of_nonneg (by omega)
            refine c5.ok _ k3 _ _ rfl (But.of (Same.new hp)) (N3.same (Same.new hp)) ⟨p, v, rfl, New.of (new ((b1.trans b2).trans b3) N3.some_ hp) (upd_same.trans ?_), (lift (b1.trans b2) N2.some_ (But.of (Same.new hp))).row r⟩
            rw [en]
          · rw [decide_eq_false (by intro z; injection z with z; exact hw1 z)]
            have c3 := c2.at_ (if_neg hw1)
            refine iteF ⟨_, rfl, rfl, _, rfl, ?_⟩
            by_cases hw2 : w1 = 2
            · rw [decide_eq_true (by rw [hw2])]
              have c4 := c3.at_ (if_pos hw2)
              refine iteT (callD_ct (z := 3 - (j : Int)) (rd := rdRow j) (S := fun p H v => RowAt H p v) (a := a) rfl (hz _ _ rfl) N1 _ c4 fun x k3 H3 v b3 N3 r c5 => ⟨by show 2 ≤ sizeLine; decide, fun p hp => ?_⟩)
              exact c5.ok _ k3 _ _ rfl (But.of (Same.new hp)) (N3.same (Same.new hp)) ⟨p, v, rfl, New.of (new (b1.trans b3) N3.some_ hp) upd_same, (lift b1 N1.some_ (But.of (Same.new hp))).row r⟩
            · rw [decide_eq_false (by intro z; injection z with z; exact hw2 z)]
              have c4 := c3.at_ (if_neg hw2)
              refine iteF (take_ct (a := a) rfl N1 num_c num_c _ c4 fun f k2 H2 f0 f2 b2 N2 c5 => ?_)
              refine take_ct (a := a) rfl N2 num_neg num_c _ c5 fun x k3 H3 _ _ b3 N3 c6 => ?_
              refine ⟨_, rfl, _, rfl, callD_ct (z := 3 - (j : Int)) (rd := rdRow j) (S := fun p H v => RowAt H p v) (a := a) rfl (hz _ _ rfl) N3 _ c6 fun y k4 H4 v b4 N4 r c7 => ⟨by show 4 ≤ sizeLine; decide, fun p hp => ?_⟩⟩
              have en : ((f.toNat : Nat) : Int) = f := Int.toNat_of_nonneg f0
              refine c7.ok _ k4 _ _ rfl (But.of (Same.new hp)) (N4.same (Same.new hp)) ⟨p, v, rfl, New.of (new (((b1.trans b2).trans b3).trans b4) N4.some_ hp) (upd_same.trans ?_), (lift ((b1.trans b2).trans b3) N3.some_ (But.of (Same.new hp))).row r⟩
              rw [en]
      · have : below j = none := by
          cases j with
          | zero => rfl
          | succ j =>
            have := of_decide_eq_false hj2
            omega
        rw [this] at c2
        exact (c2.no rfl).S
end My
namespace My
open PySem PySem.Spec PyProof.Rows L2
open VamacBase (Deed Prog Table Reader readDeed readTimes whole readListed flatDeed flatDeeds readProg)
theorem sc_read_row : FnScope ["numbers", "deep", "many", "turn"] ["numbers", "deep"] (defScope s_read_row) := ⟨rfl, rfl, rfl, by decide +kernel, rfl, by decide +kernel, by decide +kernel⟩
theorem row_of {P : Program} {w : World} {K : PySem.W.Frag} {mg : Str → Option Value} {base : Heap} (T : Txt K mg) {j : Nat} (hj : j ≤ 3) (F : FnOk P w K mg base (L2.CX P w) (2 * j + 11) T.read_piece.f T.read_piece.fd ["numbers", "deep"] (spPiece K T.Numbers.C T.Ref j)) : FnOk P w K mg base (L2.CX P w) (2 * j + 12) T.read_row.f T.read_row.fd ["numbers", "deep"] (spRow K T.Numbers.C T.Ref (j + 1)) := by
  refine T.read_row.F.okX sc_read_row (fun vs H Q E h => ?_) (fun cdv A outer s H vs Q E hr h => ⟨_, (pss_cons (ps_set (i := 2) sc_read_row.nd rfl (Or.inl rfl) (pe_meth (pv 0) T.Numbers.cl T.Numbers_take.m (ok_Numbers_take T) (hr.mono (by omega)) T.Numbers_take.b .nil (passes_call (takes_of rfl rfl rfl rfl) fun _ _ _ _ h => h) (by exact (pa_cons pe_int (pa_cons (pe_cst (by rfl) T.c_MOST_PIECES) pa_nil)))))
    (pss_one (ps_ret (pe_lcX (own := [("turn", 3)]) (W := E) (takes_of rfl rfl rfl rfl) rfl rfl rfl sc_read_row.nd (pi_range1 (by rfl) T.z_range (by exact (pa_cons (pv 2) pa_nil))) (blkOk_by (N := ["numbers", "deep", "many", "turn"]) (sc := defScope s_read_row) (by decide +kernel)) (fun _ _ _ _ _ => (pg_name (i := 3) sc_read_row.nd rfl (Or.inl rfl))) (fun _ _ _ _ _ => pts_nil) (fun _ _ _ _ _ => (pe_call F (hr.mono (by omega)) rfl T.read_piece.g T.read_piece.k T.read_piece.b .nil passB (by exact (pa_cons (pv 0) (pa_cons (pv 1) pa_nil))))))))), ?_⟩)
  · obtain ⟨a, b, l, k, rfl, _⟩ := h
    rfl
  · obtain ⟨a, b, l, k, rfl, N, hE, hQ⟩ := h
    have c : Ct K T.Numbers.C T.Ref a b l H H E (fun p H v => RowAt H p v) Q (rdRow j (l.drop k)) := ⟨hE, hQ⟩
    clear hE hQ
    unfold rdRow rdRowW at c
    refine r_set (take_ct (a := a) rfl N num_c num_c _ c fun z k1 H1 z0 z16 b1 N1 c1 => ?_)
    refine ⟨_, rfl, z, rfl, by omega, by omega, fun D hD => ?_⟩
    refine lc_read (K := K) (C := T.Numbers.C) (Ref := T.Ref) (E := E) (a := a) (b := b) (l := l) (k := k1) (rd := rdPc (below j)) (R := fun d H v => PcAt H d v) (fun d H H' v s h => (Kept.of s).pc h) (by omega) hD N1 (fun H3 y QQ k N3 h3 h4 => ?_) (fun e => ?_) fun ds k' H3 vs e b3 N3 h3 hR => ?_
    · exact ⟨_, rfl, _, rfl, a, b, l, k, rfl, N3, h3, h4⟩
    · refine c1.no ?_
      show Option.map _ (readTimes _ z.toNat (l.drop k1)) = none
      rw [e]
      rfl
    · have aD : a ≠ D := fun z => by
        obtain ⟨o, h⟩ := N1.some_
        rw [z, hD] at h
        cases h
      have dD : Dom H (upd H1 D (.lst [])) := (Dom.but b1 N1.some_).trans (Dom.of (Same.new hD))
      refine c1.ok (ofPcs ds) k' H3 _ ?_ b3 N3 ⟨D, vs, rfl, New.of ((Dom.but b1 N1.some_).none hD) h3, rows_of ds vs (hR.mono fun d v h => (Kept.of (New.more dD)).pc h)⟩
      show Option.map _ (readTimes _ z.toNat (l.drop k1)) = _
      rw [e]
      rfl
section
variable {P : Program} {w : World} {K : PySem.W.Frag} {mg : Str → Option Value} {base : Heap} {CX : CXT} {k : Nat} {f : Addr} {fd : FuncData} {ps : List Str} {sp : Sp}
theorem bot_ok (h : ∀ vs H Q E, ¬ sp vs H Q E) : FnOk P w K mg base CX k f fd ps sp := ⟨fun vs H Q E q => absurd q (h _ _ _ _), fun _ _ _ _ _ _ _ _ _ _ _ _ _ q => absurd q (h _ _ _ _)⟩
theorem ok_row_n (T : Txt K mg) : ∀ (j : Nat), j ≤ 4 → FnOk P w K mg base (L2.CX P w) (2 * j + 10) T.read_row.f T.read_row.fd ["numbers", "deep"] (spRow K T.Numbers.C T.Ref j)
  | 0, _ => bot_ok fun _ _ _ _ h => h
  | j + 1, hj => row_of T (by omega) (piece_of T (by omega) (ok_row_n T j (by omega)))
/-- read_row(numbers, 0) -/
theorem ok_read_row (T : Txt K mg) : FnOk P w K mg base (L2.CX P w) 18 T.read_row.f T.read_row.fd ["numbers", "deep"] (spRdD K T.Numbers.C T.Ref 0 (rdRow 3) (fun p H v => RowAt H p v)) := ok_row_n T 4 (by omega)
end
/-! ### piece by piece -/
def szC : Pc → Nat
  | .deed _ _ => 1
  | .times _ b => b.size + 1
  | .toEnd b => b.size + 1
  | .when _ _ b => b.size + 1
def dpC : Pc → Nat
  | .deed _ _ => 0
  | .times _ b => b.depth + 1
  | .toEnd b => b.depth + 1
  | .when _ _ b => b.depth + 1
theorem size_snoc (c : Pc) : ∀ l : List Pc, (ofPcs (l ++ [c])).size = (ofPcs l).size + szC c
  | [] => by cases c <;> simp [ofPcs, Pc.cons, Prog.size, szC]
  | e :: l => by
    have := size_snoc c l
    cases e <;> simp [ofPcs, Pc.cons, Prog.size, this] <;> omega
theorem dp_mem : ∀ (p : Prog) (c : Pc), c ∈ pcsOf p → dpC c ≤ p.depth
  | .done, c, h => by cases h
  | .deed d s r, c, h => by
    rcases List.mem_cons.mp h with rfl | h
    · exact Nat.zero_le _
    · exact dp_mem r c h
  | .times n b r, c, h => by
    rcases List.mem_cons.mp h with rfl | h
    · exact Nat.le_max_left _ _
    · exact Nat.le_trans (dp_mem r c h) (Nat.le_max_right _ _)
  | .toEnd b r, c, h => by
    rcases List.mem_cons.mp h with rfl | h
    · exact Nat.le_max_left _ _
    · exact Nat.le_trans (dp_mem r c h) (Nat.le_max_right _ _)
  | .when f v b r, c, h => by
    rcases List.mem_cons.mp h with rfl | h
    · exact Nat.le_max_left _ _
    · exact Nat.le_trans (dp_mem r c h) (Nat.le_max_right _ _)
theorem atM2 {A : Type} {x v : A} : atI [x, v] (-1) = some v := atI_last [x] v
theorem atM3 {A : Type} {x y v : A} : atI [x, y, v] (-1) = some v := atI_last [x, y] v
theorem atM4 {A : Type} {x y z v : A} : atI [x, y, z, v] (-1) = some v := atI_last [x, y, z] v
theorem pc_head {H : Hp} {c : Pc} {v : V} (h : PcAt H c v) : ∃ (q : Addr) (k : Int) (xs : List V), v = .ref q ∧ H q = some (.tup (.int k :: xs)) ∧
    ((∃ d s, c = .deed d s ∧ k = 0) ∨ (k ≠ 0 ∧ ∃ (b : Prog) (bv : V), atI (V.int k :: xs) (-1) = some bv ∧ RowAt H b bv ∧ dpC c = b.depth + 1 ∧ szC c = b.size + 1)) := by
  cases c with
  | deed d s => obtain ⟨q, dv, rfl, h2, h3⟩ := h; exact ⟨q, 0, _, rfl, h2, .inl ⟨d, s, rfl, rfl⟩⟩
  | times n b => obtain ⟨q, bv, rfl, h2, h3⟩ := h; exact ⟨q, 1, _, rfl, h2, .inr ⟨by decide, b, bv, atM3, h3, rfl, rfl⟩⟩
  | toEnd b => obtain ⟨q, bv, rfl, h2, h3⟩ := h; exact ⟨q, 2, _, rfl, h2, .inr ⟨by decide, b, bv, atM2, h3, rfl, rfl⟩⟩
  | «when» f x b => obtain ⟨q, bv, rfl, h2, h3⟩ := h; exact ⟨q, 3, _, rfl, h2, .inr ⟨by decide, b, bv, atM4, h3, rfl, rfl⟩⟩
/-- many_pieces -/
def spMany : Nat → Sp
  | 0 => fun _ _ _ _ => False
  | d + 1 => fun vs H Q _ => ∃ (v : V) (p : Prog), vs = [v] ∧ RowAt H p v ∧ p.depth ≤ d ∧ Q (.int (p.size : Nat)) H
theorem sc_many_pieces : FnScope ["row", "found", "piece"] ["row"] (defScope s_many_pieces) := ⟨rfl, rfl, rfl, by decide +kernel, rfl, by decide +kernel, by decide +kernel⟩
theorem many_of {P : Program} {w : World} {K : PySem.W.Frag} {mg : Str → Option Value} {base : Heap} (T : Txt K mg) {d : Nat} (F : FnOk P w K mg base CX0 d T.many_pieces.f T.many_pieces.fd ["row"] (spMany d)) : FnOk P w K mg base CX0 (d + 1) T.many_pieces.f T.many_pieces.fd ["row"] (spMany (d + 1)) := by
  refine T.many_pieces.F.ok sc_many_pieces (fun vs H Q E h => ?_) (fun cdv A outer s H vs Q E hr h => ⟨_, (pss_cons (ps_set (i := 1) sc_many_pieces.nd rfl (Or.inl rfl) pe_int)
    (pss_cons (ps_for PassesOwn.never rfl (pi_listK (K := K) (pv 0)) (pg_name (i := 2) sc_many_pieces.nd rfl (Or.inl rfl))
    (pss_cons (ps_set (i := 1) sc_many_pieces.nd rfl (Or.inl rfl) (pe_op op_add (pv 1) pe_int))
    (pss_one (ps_if (pt_cmpR op_ne (pe_ix (ix_tupK (K := K)) (pv 2) pe_int (fun _ _ => rfl)) (pe_cst (by rfl) T.c_DEED) (nomark _))
    (pss_one (ps_set (i := 1) sc_many_pieces.nd rfl (Or.inl rfl) (pe_op op_add (pv 1) (pe_call F (hr.mono (by omega)) rfl T.many_pieces.g T.many_pieces.k T.many_pieces.b .nil pass0 (by exact (pa_cons (pe_ix (ix_tupK (K := K)) (pv 2) (pe_un un_neg pe_int) (fun _ _ => rfl)) pa_nil))))))
    pss_nil))))
    (pss_one (ps_ret (pv 1))))), ?_⟩)
  · obtain ⟨v, p, rfl, _⟩ := h
    rfl
  · obtain ⟨v, p, rfl, ⟨a, vs, rfl, ha, hp⟩, hd, hQ⟩ := h
    have hx := rows_to p vs hp
    refine ⟨_, rfl, a, rfl, ⟨vs, SqL.of ha⟩, for_list (K := K) (a := a) (xs := vs) (fun i σ H' => H' = H ∧ ∃ v, σ = [some (.ref a), some (.int ((ofPcs ((pcsOf p).take i)).size : Nat)), v]) ⟨rfl, _, rfl⟩ (fun i σ H' _ ⟨e, _⟩ => by rw [e]; exact SqL.of ha) ?_ ?_⟩
    · rintro i x σ H' hi ⟨rfl, v, rfl⟩
      obtain ⟨c, hc, hR⟩ := hx.getV hi
      have hdp := dp_mem p c (List.mem_of_getElem? hc)
      have hsz := size_snoc c ((pcsOf p).take i)
      rw [← take_one hc] at hsz
      obtain ⟨q, k, xs, rfl, hq, hk⟩ := pc_head hR
      refine ⟨_, rfl, _, _, rfl, rfl, ?_⟩
      refine ⟨_, rfl, q, _, 0, _, rfl, rfl, SqT.of hq, at0, rfl, _, rfl, ?_⟩
      rcases hk with ⟨dd, ss, rfl, rfl⟩ | ⟨hk, b, bv, hb, hrow, h1, h2⟩
      · refine iteF ⟨rfl, some (.ref q), ?_⟩
        rw [hsz]
        rfl
      · rw [decide_eq_false (by intro z; injection z with z; exact hk z)]
        refine iteT ⟨_, rfl, _, rfl, _, rfl, q, _, -1, bv, rfl, rfl, SqT.of hq, hb, ?_⟩
        cases d with
        | zero => omega
        | succ d =>
          refine ⟨_, _, rfl, hrow, by omega, _, _, rfl, rfl, rfl, some (.ref q), ?_⟩
          rw [hsz, h2]
          have e : (((ofPcs ((pcsOf p).take i)).size : Nat) : Int) + 1 + (b.size : Nat) = (((ofPcs ((pcsOf p).take i)).size + (b.size + 1) : Nat) : Int) := by omega
          rw [← e]
          rfl
    · rintro σ H' ⟨rfl, v, rfl⟩
      refine ⟨_, rfl, ?_⟩
      rw [← hx.1, List.take_length, of_pcs]
      exact hQ
theorem ok_many_n {P : Program} {w : World} {K : PySem.W.Frag} {mg : Str → Option Value} {base : Heap} (T : Txt K mg) : ∀ d : Nat, FnOk P w K mg base CX0 d T.many_pieces.f T.many_pieces.fd ["row"] (spMany d)
  | 0 => bot_ok fun _ _ _ _ h => h
  | d + 1 => many_of T (ok_many_n T d)
theorem ok_many_pieces {P : Program} {w : World} {K : PySem.W.Frag} {mg : Str → Option Value} {base : Heap} (T : Txt K mg) : FnOk P w K mg base CX0 4 T.many_pieces.f T.many_pieces.fd ["row"] (spMany 4) := ok_many_n T 4
theorem sc_whole_program : FnScope ["some", "numbers", "found"] ["some"] (defScope s_whole_program) := ⟨rfl, rfl, rfl, by decide +kernel, rfl, by decide +kernel, by decide +kernel⟩
theorem ok_whole_program {P : Program} {w : World} {K : PySem.W.Frag} {mg : Str → Option Value} {base : Heap} (T : Txt K mg) : FnOk P w K mg base (L2.CX P w) 19 T.whole_program.f T.whole_program.fd ["some"] (spWhole K T.Ref readProg (fun p H v => RowAt H p v)) := by
  refine T.whole_program.F.okX sc_whole_program (fun vs H Q E h => ?_) (fun cdv A outer s H vs Q E hr h => ⟨_, (pss_cons (ps_set (i := 1) sc_whole_program.nd rfl (Or.inl rfl) (pe_make T.mk_Numbers (ok_Numbers_init T) (hr.mono (by decide)) rfl T.Numbers.g T.Numbers_init.b .nil pass0 (by exact (pa_cons (pv 0) pa_nil))))
    (pss_cons (ps_set (i := 2) sc_whole_program.nd rfl (Or.inl rfl) (pe_call (ok_read_row T) (hr.mono (by decide)) rfl T.read_row.g T.read_row.k T.read_row.b .nil (passes_call (takes_of rfl rfl rfl rfl) fun _ _ _ _ h => h) (by exact (pa_cons (pv 1) (pa_cons pe_int pa_nil)))))
    (pss_cons (ps_expr (pe_meth0 (pv 1) T.Numbers.cl T.Numbers_end.m (ok_Numbers_end T) (hr.mono (by decide)) T.Numbers_end.b .nil (passes_call (takes_of rfl rfl rfl rfl) fun _ _ _ _ h => h)))
    (pss_cons (ps_expr (pe_call (ok_want T) (hr.mono (by decide)) rfl T.want.g T.want.k T.want.b .nil (passes_call (takes_of rfl rfl rfl rfl) fun _ _ _ _ h => h) (by exact (pa_cons (pe_cmpR op_le (pe_call (ok_many_pieces T) (hr.mono (by decide)) rfl T.many_pieces.g T.many_pieces.k T.many_pieces.b .nil pass0 (by exact (pa_cons (pv 2) pa_nil))) (pe_cst (by rfl) T.c_MOST_PIECES) (nomark _)) (pa_cons (pe_cst (by rfl) T.c_BAD) pa_nil)))))
    (pss_one (ps_ret (pv 2))))))), ?_⟩)
  · obtain ⟨b, l, rfl, _⟩ := h
    rfl
  · obtain ⟨b, l, rfl, hb, hl, hE, hQ⟩ := h
    rw [whole_prog] at hE hQ
    unfold wholePy at hE hQ
    refine r_set (make_num (b := b) (l := l) rfl hb hl fun x H1 nx s1 N1 => ?_)
    refine ⟨_, rfl, x, b, l, 0, rfl, N1, fun e => ErrS.new (hE ?_) s1 nx, fun p k1 H2 v e b2 N2 r => ?_⟩
    · rw [show rdRow 3 l = none from e]
    · have e : rdRow 3 l = some (p, l.drop k1) := e
      rw [e] at hE hQ
      have s2 : Same H H2 := fun c o y => b2 c o (s1 c o y) (ne_of_none y nx)
      refine r_drop (end_rd (a := x) (b := b) (l := l) (k := k1) rfl N2 (fun y => (hE ?_).mono s2) fun y => ?_)
      · cases hh : l.drop k1 with
        | nil => exact absurd hh y
        | cons _ _ => rfl
      · rw [y] at hE hQ
        have hrow := (Kept.of (New.sub (H := H1))).row r
        refine ⟨_, rfl, _, p, rfl, hrow, rdRow_deep e, _, _, rfl, rfl, _, _, rfl, fun h => ?_, fun h => ?_⟩
        · have h := of_decide_eq_true h
          refine ⟨_, rfl, hQ p H2 v ?_ s2 ((Kept.of (New.more (Dom.of s1))).row r)⟩
          exact if_pos (by omega)
        · have h := of_decide_eq_false h
          refine (hE ?_).mono s2
          exact if_neg (by omega)
end My
namespace My
open PySem PySem.Spec PyProof.Rows L2
open VamacBase (Deed Prog Table Reader readDeed readTimes whole readListed flatDeed flatDeeds readProg flatProg flatPieces)
open Vamacb (isCounted lengthOf unrollFrom unrollRounds)
/-! ### plain rows, piece by piece -/
def plC : Pc → Bool
  | .deed _ _ => true
  | .times _ b => isCounted b
  | _ => false
theorem counted_all : ∀ p : Prog, (pcsOf p).all plC = isCounted p
  | .done => rfl
  | .deed d s r => by
    show (true && (pcsOf r).all plC) = isCounted r
    rw [counted_all r, Bool.true_and]
  | .times n b r => by
    show (isCounted b && (pcsOf r).all plC) = (isCounted b && isCounted r)
    rw [counted_all r]
  | .toEnd b r => rfl
  | .when f v b r => rfl
theorem counted_mem {p : Prog} {c : Pc} (h : isCounted p = true) (hc : c ∈ pcsOf p) : (∃ d s, c = .deed d s) ∨ (∃ n b, c = .times n b ∧ isCounted b = true) := by
  rw [← counted_all, List.all_eq_true] at h
  have := h c hc
  cases c with
  | deed d s => exact .inl ⟨d, s, rfl⟩
  | times n b => exact .inr ⟨n, b, rfl, this⟩
  | toEnd b => cases this
  | «when» f v b => cases this
theorem row_len : ∀ p : Prog, p.row = (pcsOf p).length
  | .done => rfl
  | .deed _ _ r => congrArg (· + 1) (row_len r)
  | .times _ _ r => congrArg (· + 1) (row_len r)
  | .toEnd _ r => congrArg (· + 1) (row_len r)
  | .when _ _ _ r => congrArg (· + 1) (row_len r)
theorem row_size : ∀ p : Prog, p.row ≤ p.size
  | .done => Nat.le_refl _
  | .deed _ _ r => Nat.succ_le_succ (row_size r)
  | .times _ b r => by show r.row + 1 ≤ b.size + r.size + 1; have := row_size r; omega
  | .toEnd b r => by show r.row + 1 ≤ b.size + r.size + 1; have := row_size r; omega
  | .when _ _ b r => by show r.row + 1 ≤ b.size + r.size + 1; have := row_size r; omega
theorem sz_mem : ∀ (p : Prog) (c : Pc), c ∈ pcsOf p → szC c ≤ p.size
  | .done, c, h => by cases h
  | .deed d s r, c, h => by
    show szC c ≤ r.size + 1
    rcases List.mem_cons.mp h with rfl | h
    · show 1 ≤ _; omega
    · have := sz_mem r c h; omega
  | .times n b r, c, h => by
    show szC c ≤ b.size + r.size + 1
    rcases List.mem_cons.mp h with rfl | h
    · show b.size + 1 ≤ _; omega
    · have := sz_mem r c h; omega
  | .toEnd b r, c, h => by
    show szC c ≤ b.size + r.size + 1
    rcases List.mem_cons.mp h with rfl | h
    · show b.size + 1 ≤ _; omega
    · have := sz_mem r c h; omega
  | .when f v b r, c, h => by
    show szC c ≤ b.size + r.size + 1
    rcases List.mem_cons.mp h with rfl | h
    · show b.size + 1 ≤ _; omega
    · have := sz_mem r c h; omega
/-- is_plain -/
def spPlain : Nat → Sp
  | 0 => fun _ _ _ _ => False
  | d + 1 => fun vs H Q _ => ∃ (v : V) (p : Prog), vs = [v] ∧ RowAt H p v ∧ p.depth ≤ d ∧ p.size ≤ 1000 ∧ ∀ H', Same H H' → Q (.bl (isCounted p)) H'
theorem sc_is_plain : FnScope ["row", "piece"] ["row"] (defScope s_is_plain) := ⟨rfl, rfl, rfl, by decide +kernel, rfl, by decide +kernel, by decide +kernel⟩
theorem plain_of {P : Program} {w : World} {K : PySem.W.Frag} {mg : Str → Option Value} {base : Heap} (T : Txt K mg) {d : Nat} (F : FnOk P w K mg base CX0 d T.is_plain.f T.is_plain.fd ["row"] (spPlain d)) : FnOk P w K mg base CX0 (d + 1) T.is_plain.f T.is_plain.fd ["row"] (spPlain (d + 1)) := by
  refine T.is_plain.F.ok sc_is_plain (fun vs H Q E h => ?_) (fun cdv A outer s H vs Q E hr h => ⟨_, (pss_one (ps_ret (pe_callB (cr_allK (K := K) rfl) (by rfl) T.z_all (by decide +kernel) (by exact (pa_cons (pe_lc (own := [("piece", 1)]) rfl sc_is_plain.nd (pi_listK (K := K) (pv 0)) (blkOk_by (N := ["row", "piece"]) (sc := defScope s_is_plain) (by decide +kernel)) (fun _ _ _ _ _ => (pg_name (i := 1) sc_is_plain.nd rfl (Or.inl rfl))) (fun _ _ _ _ _ => pts_nil) (fun _ _ _ _ _ => (pe_or (pe_cmpR op_eq (pe_ix (ix_tupK (K := K)) (pv 1) pe_int (fun _ _ => rfl)) (pe_cst (by rfl) T.c_DEED) (nomark _)) (pe_one (pe_and (pe_cmpR op_eq (pe_ix (ix_tupK (K := K)) (pv 1) pe_int (fun _ _ => rfl)) (pe_cst (by rfl) T.c_LOOP) (nomark _)) (pe_one (pe_call F (hr.mono (by omega)) rfl T.is_plain.g T.is_plain.k T.is_plain.b .nil pass0 (by exact (pa_cons (pe_ix (ix_tupK (K := K)) (pv 1) pe_int (fun _ _ => rfl)) pa_nil))))))))) pa_nil))))), ?_⟩)
  · obtain ⟨v, p, rfl, _⟩ := h
    rfl
  · obtain ⟨v, p, rfl, ⟨a, vs, rfl, ha, hp⟩, hd, hs, hQ⟩ := h
    have hx := rows_to p vs hp
    refine r_ret ⟨_, rfl, a, rfl, ⟨_, SqL.of ha⟩, fun D hD => ?_⟩
    refine lc_list (K := K) (a := a) (xs := vs) (fun i H' => Same H H' ∧ H' D = some (.lst ((((pcsOf p).take i).map plC).map V.bl))) ⟨Same.new hD, upd_same⟩ (fun i H' _ h' => SqL.of (h'.1 _ _ ha)) ?_ ?_
    · rintro i x H' hi ⟨s1, h1⟩
      obtain ⟨c, hc, hR⟩ := hx.getV hi
      have hR := (Kept.of s1).pc hR
      have hdp := dp_mem p c (List.mem_of_getElem? hc)
      have hsz := sz_mem p c (List.mem_of_getElem? hc)
      have hil : i < (pcsOf p).length := (List.getElem?_eq_some_iff.mp hc).1
      have hrow := row_size p
      rw [row_len] at hrow
      have fin : ∀ H4, Same H' H4 → ∃ acc, H4 D = some (.lst acc) ∧ acc.length < sizeLine ∧ Same H (upd H4 D (.lst (acc ++ [.bl (plC c)]))) ∧ upd H4 D (.lst (acc ++ [.bl (plC c)])) D = some (.lst ((((pcsOf p).take (i + 1)).map plC).map V.bl)) := by
        intro H4 s2
        refine ⟨_, s2 _ _ h1, ?_, Same.mut (s1.trans s2) hD, ?_⟩
        · rw [List.length_map, List.length_map, List.length_take]
          exact small1000 (by omega)
        · rw [upd_same, take_one hc, List.map_append, List.map_append]
          rfl
      refine ⟨rfl, ?_⟩
      cases c with
      | deed dd ss =>
        obtain ⟨q, dv, rfl, hq, _⟩ := hR
        exact ⟨_, rfl, q, _, 0, _, rfl, rfl, SqT.of hq, at0, rfl, _, rfl, iteT (fin H' (Same.refl _))⟩
      | times n b =>
        obtain ⟨q, bv, rfl, hq, hb⟩ := hR
        cases d with
        | zero => exact absurd hdp (by show ¬ (b.depth + 1 ≤ _); omega)
        | succ d =>
          have hdp : b.depth + 1 ≤ p.depth := hdp
          have hsz : b.size + 1 ≤ p.size := hsz
          exact ⟨_, rfl, q, _, 0, _, rfl, rfl, SqT.of hq, at0, rfl, _, rfl, iteF ⟨_, rfl, q, _, 0, _, rfl, rfl, SqT.of hq, at0, rfl, _, rfl, iteT ⟨_, rfl, q, _, 2, _, rfl, rfl, SqT.of hq, at2, bv, b, rfl, hb, by omega, by omega, fun H4 s4 => fin H4 s4⟩⟩⟩
      | toEnd b =>
        obtain ⟨q, bv, rfl, hq, hb⟩ := hR
        exact ⟨_, rfl, q, _, 0, _, rfl, rfl, SqT.of hq, at0, rfl, _, rfl, iteF ⟨_, rfl, q, _, 0, _, rfl, rfl, SqT.of hq, at0, rfl, _, rfl, iteF (fin H' (Same.refl _))⟩⟩
      | «when» f v b =>
        obtain ⟨q, bv, rfl, hq, hb⟩ := hR
        exact ⟨_, rfl, q, _, 0, _, rfl, rfl, SqT.of hq, at0, rfl, _, rfl, iteF ⟨_, rfl, q, _, 0, _, rfl, rfl, SqT.of hq, at0, rfl, _, rfl, iteF (fin H' (Same.refl _))⟩⟩
    · rintro H1 ⟨s1, h1⟩
      rw [← hx.1, List.take_length] at h1
      refine ⟨D, _, rfl, SqL.of h1, ?_⟩
      rw [List.all_map]
      have := hQ H1 s1
      rw [← counted_all] at this
      exact this
theorem ok_plain_n {P : Program} {w : World} {K : PySem.W.Frag} {mg : Str → Option Value} {base : Heap} (T : Txt K mg) : ∀ d : Nat, FnOk P w K mg base CX0 d T.is_plain.f T.is_plain.fd ["row"] (spPlain d)
  | 0 => bot_ok fun _ _ _ _ h => h
  | d + 1 => plain_of T (ok_plain_n T d)
theorem ok_is_plain {P : Program} {w : World} {K : PySem.W.Frag} {mg : Str → Option Value} {base : Heap} (T : Txt K mg) : FnOk P w K mg base CX0 4 T.is_plain.f T.is_plain.fd ["row"] (spPlain 4) := ok_plain_n T 4
/-! ### many_told -/
/-- all rounds few -/
def tmB : Prog → Bool
  | .done => true
  | .deed _ _ r => tmB r
  | .times n b r => decide (n ≤ 1000) && (tmB b && tmB r)
  | .toEnd b r => tmB b && tmB r
  | .when _ _ b r => tmB b && tmB r
theorem tmB_mem : ∀ {p : Prog} {n : Nat} {b : Prog}, tmB p = true → Pc.times n b ∈ pcsOf p → n ≤ 1000 ∧ tmB b = true
  | .done, n, b, _, h => by cases h
  | .deed d s r, n, b, hp, h => by
    rcases List.mem_cons.mp h with h | h
    · cases h
    · exact tmB_mem (p := r) hp h
  | .times m c r, n, b, hp, h => by
    have hp : (decide (m ≤ 1000) && (tmB c && tmB r)) = true := hp
    rw [Bool.and_eq_true, Bool.and_eq_true] at hp
    rcases List.mem_cons.mp h with h | h
    · cases h
      exact ⟨of_decide_eq_true hp.1, hp.2.1⟩
    · exact tmB_mem (p := r) hp.2.2 h
  | .toEnd c r, n, b, hp, h => by
    have hp : (tmB c && tmB r) = true := hp
    rw [Bool.and_eq_true] at hp
    rcases List.mem_cons.mp h with h | h
    · cases h
    · exact tmB_mem (p := r) hp.2 h
  | .when f v c r, n, b, hp, h => by
    have hp : (tmB c && tmB r) = true := hp
    rw [Bool.and_eq_true] at hp
    rcases List.mem_cons.mp h with h | h
    · cases h
    · exact tmB_mem (p := r) hp.2 h
def lnC : Pc → Nat
  | .deed _ _ => 1
  | .times n b => n * lengthOf b
  | _ => 0
theorem len_snoc (c : Pc) : ∀ l : List Pc, lengthOf (ofPcs (l ++ [c])) = lengthOf (ofPcs l) + lnC c
  | [] => by cases c <;> simp [ofPcs, Pc.cons, lengthOf, lnC]
  | e :: l => by
    have := len_snoc c l
    cases e <;> simp [ofPcs, Pc.cons, lengthOf, this] <;> omega
def spManyTold : Nat → Sp
  | 0 => fun _ _ _ _ => False
  | d + 1 => fun vs H Q _ => ∃ (v : V) (p : Prog), vs = [v] ∧ RowAt H p v ∧ p.depth ≤ d ∧ isCounted p = true ∧ tmB p = true ∧ Q (.int (lengthOf p : Nat)) H
theorem sc_many_told : FnScope ["row", "found", "piece"] ["row"] (defScope s_many_told) := ⟨rfl, rfl, rfl, by decide +kernel, rfl, by decide +kernel, by decide +kernel⟩
theorem mtold_of {P : Program} {w : World} {K : PySem.W.Frag} {mg : Str → Option Value} {base : Heap} (T : Txt K mg) {d : Nat} (F : FnOk P w K mg base CX0 d T.many_told.f T.many_told.fd ["row"] (spManyTold d)) : FnOk P w K mg base CX0 (d + 1) T.many_told.f T.many_told.fd ["row"] (spManyTold (d + 1)) := by
  refine T.many_told.F.ok sc_many_told (fun vs H Q E h => ?_) (fun cdv A outer s H vs Q E hr h => ⟨_, (pss_cons (ps_set (i := 1) sc_many_told.nd rfl (Or.inl rfl) pe_int)
    (pss_cons (ps_for PassesOwn.never rfl (pi_listK (K := K) (pv 0)) (pg_name (i := 2) sc_many_told.nd rfl (Or.inl rfl))
    (pss_one (ps_set (i := 1) sc_many_told.nd rfl (Or.inl rfl) (pe_op op_add (pv 1) (pe_ifExp (pt_cmpR op_eq (pe_ix (ix_tupK (K := K)) (pv 2) pe_int (fun _ _ => rfl)) (pe_cst (by rfl) T.c_DEED) (nomark _)) pe_int (pe_op op_mul (pe_ix (ix_tupK (K := K)) (pv 2) pe_int (fun _ _ => rfl)) (pe_call F (hr.mono (by omega)) rfl T.many_told.g T.many_told.k T.many_told.b .nil pass0 (by exact (pa_cons (pe_ix (ix_tupK (K := K)) (pv 2) pe_int (fun _ _ => rfl)) pa_nil)))))))))
    (pss_one (ps_ret (pv 1))))), ?_⟩)
  · obtain ⟨v, p, rfl, _⟩ := h
    rfl
  · obtain ⟨v, p, rfl, ⟨a, vs, rfl, ha, hp⟩, hd, hpl, htm, hQ⟩ := h
    have hx := rows_to p vs hp
    refine ⟨_, rfl, a, rfl, ⟨vs, SqL.of ha⟩, for_list (K := K) (a := a) (xs := vs) (fun i σ H' => H' = H ∧ ∃ v, σ = [some (.ref a), some (.int (lengthOf (ofPcs ((pcsOf p).take i)) : Nat)), v]) ⟨rfl, _, rfl⟩ (fun i σ H' _ ⟨e, _⟩ => by rw [e]; exact SqL.of ha) ?_ ?_⟩
    · rintro i x σ H' hi ⟨rfl, v, rfl⟩
      obtain ⟨c, hc, hR⟩ := hx.getV hi
      have hm := List.mem_of_getElem? hc
      have hdp := dp_mem p c hm
      have hsz := len_snoc c ((pcsOf p).take i)
      rw [← take_one hc] at hsz
      rcases counted_mem hpl hm with ⟨dd, ss, rfl⟩ | ⟨n, b, rfl, hb⟩
      · obtain ⟨q, dv, rfl, hq, _⟩ := hR
        refine ⟨_, rfl, _, rfl, q, _, 0, _, rfl, rfl, SqT.of hq, at0, rfl, _, rfl, iteT ⟨_, _, rfl, rfl, rfl, some (.ref q), ?_⟩⟩
        rw [hsz]
        rfl
      · obtain ⟨q, bv, rfl, hq, hrow⟩ := hR
        obtain ⟨hn, htb⟩ := tmB_mem htm hm
        cases d with
        | zero => exact absurd hdp (by show ¬ (b.depth + 1 ≤ _); omega)
        | succ d =>
          have hdp : b.depth + 1 ≤ p.depth := hdp
          refine ⟨_, rfl, _, rfl, q, _, 0, _, rfl, rfl, SqT.of hq, at0, rfl, _, rfl, iteF ⟨_, rfl, q, _, 1, _, rfl, rfl, SqT.of hq, at1, _, rfl, q, _, 2, _, rfl, rfl, SqT.of hq, at2, bv, b, rfl, hrow, by omega, hb, htb,
            _, _, rfl, rfl, .inl ⟨by omega, by omega⟩, _, _, rfl, rfl, rfl, some (.ref q), ?_⟩⟩
          have e : ((lengthOf (ofPcs ((pcsOf p).take i)) : Nat) : Int) + (n : Int) * (lengthOf b : Nat) = ((lengthOf (ofPcs ((pcsOf p).take i)) + n * lengthOf b : Nat) : Int) := by
            rw [Int.natCast_add, Int.natCast_mul]
          rw [hsz]
          show _ = [some (V.ref a), some (V.int ((lengthOf (ofPcs ((pcsOf p).take i)) + n * lengthOf b : Nat) : Int)), _]
          rw [← e]
          rfl
    · rintro σ H' ⟨rfl, v, rfl⟩
      refine ⟨_, rfl, ?_⟩
      rw [← hx.1, List.take_length, of_pcs]
      exact hQ
theorem ok_mtold_n {P : Program} {w : World} {K : PySem.W.Frag} {mg : Str → Option Value} {base : Heap} (T : Txt K mg) : ∀ d : Nat, FnOk P w K mg base CX0 d T.many_told.f T.many_told.fd ["row"] (spManyTold d)
  | 0 => bot_ok fun _ _ _ _ h => h
  | d + 1 => mtold_of T (ok_mtold_n T d)
theorem ok_many_told {P : Program} {w : World} {K : PySem.W.Frag} {mg : Str → Option Value} {base : Heap} (T : Txt K mg) : FnOk P w K mg base CX0 4 T.many_told.f T.many_told.fd ["row"] (spManyTold 4) := ok_mtold_n T 4
end My
namespace My
open PySem PySem.Spec PyProof.Rows L2
open VamacBase (Deed Prog Table Reader readDeed readTimes whole readListed flatDeed flatDeeds readProg flatProg flatPieces withNumber numberOf hasNumber)
open Vamacb (isCounted lengthOf unrollFrom unrollRounds)
theorem pcs_of : ∀ l : List Pc, pcsOf (ofPcs l) = l
  | [] => rfl
  | .deed d s :: l => congrArg (Pc.deed d s :: ·) (pcs_of l)
  | .times n b :: l => congrArg (Pc.times n b :: ·) (pcs_of l)
  | .toEnd b :: l => congrArg (Pc.toEnd b :: ·) (pcs_of l)
  | .when f v b :: l => congrArg (Pc.when f v b :: ·) (pcs_of l)
theorem len_app (m : List Pc) : ∀ l : List Pc, lengthOf (ofPcs (l ++ m)) = lengthOf (ofPcs l) + lengthOf (ofPcs m)
  | [] => by simp [ofPcs, lengthOf]
  | e :: l => by
    have := len_app m l
    cases e <;> simp [ofPcs, Pc.cons, lengthOf, this] <;> omega
theorem len_take (l : List Pc) (i : Nat) : lengthOf (ofPcs (l.take i)) ≤ lengthOf (ofPcs l) := by
  have := len_app (l.drop i) (l.take i)
  rw [List.take_append_drop] at this
  omega
theorem counted_take {p : Prog} (h : isCounted p = true) (i : Nat) : isCounted (ofPcs ((pcsOf p).take i)) = true := by
  rw [← counted_all, pcs_of]
  rw [← counted_all, List.all_eq_true] at h
  rw [List.all_eq_true]
  exact fun x hx => h x (List.mem_of_mem_take hx)
def unC : Pc → Nat → List Deed
  | .deed d s, t => [withNumber (numberOf d + s * (t : Int)) d]
  | .times n b, _ => unrollRounds (unrollFrom b) n 0
  | _, _ => []
theorem unroll_snoc (c : Pc) (t : Nat) : ∀ l : List Pc, unrollFrom (ofPcs (l ++ [c])) t = unrollFrom (ofPcs l) t ++ unC c t
  | [] => by cases c <;> simp [ofPcs, Pc.cons, unrollFrom, unC]
  | e :: l => by
    have := unroll_snoc c t l
    cases e <;> simp [ofPcs, Pc.cons, unrollFrom, this]
theorem rounds_snoc (ub : Nat → List Deed) : ∀ (n i : Nat), unrollRounds ub (n + 1) i = unrollRounds ub n i ++ ub (i + n)
  | 0, i => by simp [unrollRounds]
  | n + 1, i => by
    show ub i ++ unrollRounds ub (n + 1) (i + 1) = (ub i ++ unrollRounds ub n (i + 1)) ++ ub (i + (n + 1))
    rw [rounds_snoc ub n (i + 1), List.append_assoc, show i + 1 + n = i + (n + 1) by omega]
theorem DeedAt.butL {H H' : Hp} {a : Addr} {xs : List V} {d : Deed} {v : V} (e : But a H H') (ha : H a = some (.lst xs)) (h : DeedAt H d v) : DeedAt H' d v :=
  let ⟨p, h1, h2⟩ := h
  ⟨p, h1, e _ _ h2 (ne_of h2 ha (by intro z; cases z))⟩
def spToldBy : Nat → Sp
  | 0 => fun _ _ _ _ => False
  | d + 1 => fun vs H Q _ => ∃ (v : V) (p : Prog) (t : Nat), vs = [v, .int (t : Nat)] ∧ t ≤ 1000 ∧ RowAt H p v ∧ p.depth ≤ d ∧ isCounted p = true ∧ tmB p = true ∧ lengthOf p ≤ 1000 ∧
    ∀ H' L xs, Same H H' → H L = none → H' L = some (.lst xs) → All2 (DeedAt H') (unrollFrom p t) xs → Q (.ref L) H'
theorem sc_told_by : FnScope ["row", "turn", "found", "piece", "number"] ["row", "turn"] (defScope s_told_by) := ⟨rfl, rfl, rfl, by decide +kernel, rfl, by decide +kernel, by decide +kernel⟩
theorem told_of {P : Program} {w : World} {K : PySem.W.Frag} {mg : Str → Option Value} {base : Heap} (T : Txt K mg) {d : Nat} (F : FnOk P w K mg base CX0 (d + 1) T.told_by.f T.told_by.fd ["row", "turn"] (spToldBy d)) : FnOk P w K mg base CX0 (d + 2) T.told_by.f T.told_by.fd ["row", "turn"] (spToldBy (d + 1)) := by
  refine T.told_by.F.ok sc_told_by (fun vs H Q E h => ?_) (fun cdv A outer s H vs Q E hr h => ⟨_, (pss_cons (ps_set (i := 2) sc_told_by.nd rfl (Or.inl rfl) (pe_lst pa_nil))
    (pss_cons (ps_for PassesOwn.never rfl (pi_listK (K := K) (pv 0)) (pg_name (i := 3) sc_told_by.nd rfl (Or.inl rfl))
    (pss_one (ps_if (pt_cmpR op_eq (pe_ix (ix_tupK (K := K)) (pv 3) pe_int (fun _ _ => rfl)) (pe_cst (by rfl) T.c_DEED) (nomark _))
    (pss_one (ps_expr (pe_bm PySem.F.plainAttrs_list PySem.F.slot_list_append PySem.F.type_list_append mt_append (pv 2) (by exact (pa_cons (pe_call (ok_grown T) (hr.mono (by omega)) rfl T.grown.g T.grown.k T.grown.b .nil pass0 (by exact (pa_cons (pe_ix (ix_tupK (K := K)) (pv 3) pe_int (fun _ _ => rfl)) (pa_cons (pe_op op_mul (pe_ix (ix_tupK (K := K)) (pv 3) pe_int (fun _ _ => rfl)) (pv 1)) pa_nil)))) pa_nil)))))
    (pss_one (ps_for PassesOwn.never rfl (pi_range1 (by rfl) T.z_range (by exact (pa_cons (pe_ix (ix_tupK (K := K)) (pv 3) pe_int (fun _ _ => rfl)) pa_nil))) (pg_name (i := 4) sc_told_by.nd rfl (Or.inl rfl))
    (pss_one (ps_expr (pe_bm PySem.F.plainAttrs_list PySem.F.slot_list_extend PySem.F.type_list_extend mt_extend (pv 2) (by exact (pa_cons (pe_call F (hr.mono (by omega)) rfl T.told_by.g T.told_by.k T.told_by.b .nil pass0 (by exact (pa_cons (pe_ix (ix_tupK (K := K)) (pv 3) pe_int (fun _ _ => rfl)) (pa_cons (pv 4) pa_nil)))) pa_nil))))))))))
    (pss_one (ps_ret (pv 2))))), ?_⟩)
  · obtain ⟨v, p, t, rfl, _⟩ := h
    rfl
  · obtain ⟨v, p, t, rfl, ht, ⟨a, vs, rfl, ha, hp⟩, hd, hpl, htm, hl, hQ⟩ := h
    have hx := rows_to p vs hp
    refine ⟨by show 0 ≤ sizeLine; decide, fun L hL => ?_⟩
    refine ⟨_, rfl, a, rfl, ⟨vs, SqL.of ((Same.new hL) _ _ ha)⟩, for_list (K := K) (a := a) (xs := vs)
      (fun i σ H' => ∃ v u xs, σ = [some (.ref a), some (.int (t : Nat)), some (.ref L), v, u] ∧ Same H H' ∧ H' L = some (.lst xs) ∧ All2 (DeedAt H') (unrollFrom (ofPcs ((pcsOf p).take i)) t) xs) ⟨_, _, _, rfl, Same.new hL, upd_same, All2.nil⟩
      (fun i σ H' _ ⟨_, _, _, _, s1, _⟩ => SqL.of (s1 _ _ ha)) ?_ ?_⟩
    · rintro i x σ H' hi ⟨v, u, xs, rfl, s1, h1, hR⟩
      obtain ⟨c, hc, hP⟩ := hx.getV hi
      have hP0 := hP
      have hP := (Kept.of s1).pc hP
      have hm := List.mem_of_getElem? hc
      have hdp := dp_mem p c hm
      have hun := unroll_snoc c t ((pcsOf p).take i)
      have hlen := len_snoc c ((pcsOf p).take i)
      rw [← take_one hc] at hun hlen
      have hle := len_take (pcsOf p) (i + 1)
      rw [of_pcs] at hle
      have hxl : xs.length = lengthOf (ofPcs ((pcsOf p).take i)) := by rw [← hR.1, unroll_len _ (counted_take hpl i)]
      rcases counted_mem hpl hm with ⟨dd, ss, rfl⟩ | ⟨n, b, rfl, hb⟩
      · obtain ⟨q, dv, rfl, hq, hdd⟩ := hP
        refine ⟨_, rfl, q, _, 0, _, rfl, rfl, SqT.of hq, at0, rfl, _, rfl, iteT ⟨_, rfl, tyL h1, _, rfl, q, _, 1, _, rfl, rfl, SqT.of hq, at1, _, rfl, q, _, 2, _, rfl, rfl, SqT.of hq, at2, _, rfl, ss, t, rfl, rfl, .inr ⟨by omega, by omega⟩, dv, dd, _, rfl, hdd, fun H2 v2 s2 hd2 => ?_⟩⟩
        have h2 := s2 _ _ h1
        refine ⟨L, xs, v2, rfl, rfl, h2, by rw [hxl]; exact small1000 (by have : lnC (Pc.deed dd ss) = 1 := rfl; omega), _, _, _, rfl, Same.mut (s1.trans s2) hL, upd_same, ?_⟩
        rw [hun]
        have hb : But L H2 (upd H2 L (.lst (xs ++ [v2]))) := But.wr
        exact All2.snoc (hR.mono fun d v h => (h.same s2).butL hb h2) (hd2.butL hb h2)
      · obtain ⟨q, bv, rfl, hq, hrow⟩ := hP
        obtain ⟨hn, htb⟩ := tmB_mem htm hm
        cases d with
        | zero => exact absurd hdp (by show ¬ (b.depth + 1 ≤ _); omega)
        | succ d =>
          have hdp : b.depth + 1 ≤ p.depth := hdp
          have hlen : lengthOf (ofPcs ((pcsOf p).take (i + 1))) = lengthOf (ofPcs ((pcsOf p).take i)) + n * lengthOf b := hlen
          refine ⟨_, rfl, q, _, 0, _, rfl, rfl, SqT.of hq, at0, rfl, _, rfl, iteF ⟨_, rfl, q, _, 1, _, rfl, rfl, SqT.of hq, at1, n, rfl, by omega, by omega, ?_⟩⟩
          refine for_range (lo := 0) (n := n) (fun j σ H2 => ∃ u xs, σ = [some (.ref a), some (.int (t : Nat)), some (.ref L), some (.ref q), u] ∧ Same H H2 ∧ H2 L = some (.lst xs) ∧ All2 (DeedAt H2) (unrollFrom (ofPcs ((pcsOf p).take i)) t ++ unrollRounds (unrollFrom b) j 0) xs) ?_ ?_ ?_
          · refine ⟨_, xs, rfl, s1, h1, ?_⟩
            rw [show unrollRounds (unrollFrom b) 0 0 = [] from rfl, List.append_nil]
            exact hR
          · rintro j σ H2 hj ⟨u, ys, rfl, s2, h2, hR2⟩
            obtain ⟨q', bv', e1, hq', hrow'⟩ := (Kept.of s2).pc hP0
            cases e1
            have hle2 : (j + 1) * lengthOf b ≤ n * lengthOf b := Nat.mul_le_mul_right _ hj
            have hb1 : 1 * lengthOf b ≤ (j + 1) * lengthOf b := Nat.mul_le_mul_right _ (by omega)
            refine ⟨_, rfl, tyL h2, _, rfl, q, _, 2, _, rfl, rfl, SqT.of hq', at2, _, rfl, bv', b, j, (by show [bv', V.int (0 + (j : Int))] = _; rw [Int.zero_add]), by omega, hrow', by omega, hb, htb, by omega, fun H3 M zs s3 nM hM hR3 => ?_⟩
            have h3 := s3 _ _ h2
            have hyl : ys.length = lengthOf (ofPcs ((pcsOf p).take i)) + j * lengthOf b := by
              rw [← hR2.1, List.length_append, unroll_len _ (counted_take hpl i), rounds_len (unroll_len b hb)]
            have hzl : zs.length = lengthOf b := by rw [← hR3.1, unroll_len b hb]
            have hj1 : (j + 1) * lengthOf b = j * lengthOf b + lengthOf b := by rw [Nat.add_mul, Nat.one_mul]
            refine ⟨L, M, ys, zs, rfl, rfl, h3, hM, Nat.le_of_lt (small1000 (by rw [hyl, hzl]; omega)), _, _, rfl, Same.mut (s2.trans s3) hL, upd_same, ?_⟩
            have hbt : But L H3 (upd H3 L (.lst (ys ++ zs))) := But.wr
            rw [rounds_snoc, ← List.append_assoc, Nat.zero_add]
            exact All2.append (hR2.mono fun d v h => (h.same s3).butL hbt h3) (hR3.mono fun d v h => h.butL hbt h3)
          · rintro σ H2 ⟨u, ys, rfl, s2, h2, hR2⟩
            refine ⟨_, _, ys, rfl, s2, h2, ?_⟩
            rw [hun]
            exact hR2
    · rintro σ H' ⟨v, u, xs, rfl, s1, h1, hR⟩
      refine ⟨_, rfl, ?_⟩
      rw [← hx.1, List.take_length, of_pcs] at hR
      exact hQ H' L xs s1 hL h1 hR
theorem ok_told_n {P : Program} {w : World} {K : PySem.W.Frag} {mg : Str → Option Value} {base : Heap} (T : Txt K mg) : ∀ d : Nat, FnOk P w K mg base CX0 (d + 1) T.told_by.f T.told_by.fd ["row", "turn"] (spToldBy d)
  | 0 => bot_ok fun _ _ _ _ h => h
  | d + 1 => told_of T (ok_told_n T d)
theorem ok_told_by {P : Program} {w : World} {K : PySem.W.Frag} {mg : Str → Option Value} {base : Heap} (T : Txt K mg) : FnOk P w K mg base CX0 5 T.told_by.f T.told_by.fd ["row", "turn"] (spToldBy 4) := ok_told_n T 4
/-! ### row_told -/
def flC : Pc → List Int
  | .deed d s => 0 :: (flatDeed d ++ (if hasNumber d then [s] else []))
  | .times n b => 1 :: (n : Int) :: flatProg b
  | .toEnd b => 2 :: flatProg b
  | .when f v b => 3 :: (f : Int) :: v :: flatProg b
theorem flat_snoc (c : Pc) : ∀ l : List Pc, flatPieces (ofPcs (l ++ [c])) = flatPieces (ofPcs l) ++ flC c
  | [] => by cases c <;> simp [ofPcs, Pc.cons, flatPieces, flC, flatProg, VamacBase.int]
  | e :: l => by
    have := flat_snoc c l
    cases e <;> simp [ofPcs, Pc.cons, flatPieces, this]
theorem flatp_le : ∀ p : Prog, (flatPieces p).length ≤ 5 * p.size
  | .done => Nat.le_refl _
  | .deed d s r => by
    have := flatp_le r
    have := flat_le d
    show (flatDeed d ++ ((if hasNumber d then [s] else []) ++ flatPieces r)).length + 1 ≤ 5 * (r.size + 1)
    rw [List.length_append, List.length_append]
    have : (if hasNumber d then [s] else []).length ≤ 1 := by split <;> simp
    omega
  | .times n b r => by
    have := flatp_le r
    have := flatp_le b
    show (flatPieces b ++ flatPieces r).length + 1 + 1 + 1 ≤ 5 * (b.size + r.size + 1)
    rw [List.length_append]
    omega
  | .toEnd b r => by
    have := flatp_le r
    have := flatp_le b
    show (flatPieces b ++ flatPieces r).length + 1 + 1 ≤ 5 * (b.size + r.size + 1)
    rw [List.length_append]
    omega
  | .when f v b r => by
    have := flatp_le r
    have := flatp_le b
    show (flatPieces b ++ flatPieces r).length + 1 + 1 + 1 + 1 ≤ 5 * (b.size + r.size + 1)
    rw [List.length_append]
    omega
theorem size_app (m : List Pc) : ∀ l : List Pc, (ofPcs (l ++ m)).size = (ofPcs l).size + (ofPcs m).size
  | [] => by simp [ofPcs, Prog.size]
  | e :: l => by
    have := size_app m l
    cases e <;> simp [ofPcs, Pc.cons, Prog.size, this] <;> omega
theorem size_take (l : List Pc) (i : Nat) : (ofPcs (l.take i)).size ≤ (ofPcs l).size := by
  have := size_app (l.drop i) (l.take i)
  rw [List.take_append_drop] at this
  omega
def spRowTold : Nat → Sp
  | 0 => fun _ _ _ _ => False
  | d + 1 => fun vs H Q _ => ∃ (v : V) (p : Prog), vs = [v] ∧ RowAt H p v ∧ p.depth ≤ d ∧ isCounted p = true ∧ p.size ≤ 1000 ∧
    ∀ H' L, Same H H' → H L = none → H' L = some (.lst ((flatProg p).map V.int)) → Q (.ref L) H'
theorem small6 {n : Nat} (h : n ≤ 6000) : n < sizeLine := Nat.lt_of_le_of_lt h (by decide)
theorem sc_row_told : FnScope ["row", "found", "piece"] ["row"] (defScope s_row_told) := ⟨rfl, rfl, rfl, by decide +kernel, rfl, by decide +kernel, by decide +kernel⟩
theorem rtold_of {P : Program} {w : World} {K : PySem.W.Frag} {mg : Str → Option Value} {base : Heap} (T : Txt K mg) {d : Nat} (F : FnOk P w K mg base CX0 (d + 1) T.row_told.f T.row_told.fd ["row"] (spRowTold d)) : FnOk P w K mg base CX0 (d + 2) T.row_told.f T.row_told.fd ["row"] (spRowTold (d + 1)) := by
  refine T.row_told.F.ok sc_row_told (fun vs H Q E h => ?_) (fun cdv A outer s H vs Q E hr h => ⟨_, (pss_cons (ps_set (i := 1) sc_row_told.nd rfl (Or.inl rfl) (pe_lst (by exact (pa_cons (pe_callB (call_lenK (K := K)) (by rfl) T.z_len PySem.boot_len (by exact (pa_cons (pv 0) pa_nil))) pa_nil))))
    (pss_cons (ps_for PassesOwn.never rfl (pi_listK (K := K) (pv 0)) (pg_name (i := 2) sc_row_told.nd rfl (Or.inl rfl))
    (pss_cons (ps_expr (pe_bm PySem.F.plainAttrs_list PySem.F.slot_list_append PySem.F.type_list_append mt_append (pv 1) (by exact (pa_cons (pe_ix (ix_tupK (K := K)) (pv 2) pe_int (fun _ _ => rfl)) pa_nil))))
    (pss_one (ps_if (pt_cmpR op_eq (pe_ix (ix_tupK (K := K)) (pv 2) pe_int (fun _ _ => rfl)) (pe_cst (by rfl) T.c_LOOP) (nomark _))
    (pss_cons (ps_expr (pe_bm PySem.F.plainAttrs_list PySem.F.slot_list_append PySem.F.type_list_append mt_append (pv 1) (by exact (pa_cons (pe_ix (ix_tupK (K := K)) (pv 2) pe_int (fun _ _ => rfl)) pa_nil))))
    (pss_one (ps_expr (pe_bm PySem.F.plainAttrs_list PySem.F.slot_list_extend PySem.F.type_list_extend mt_extend (pv 1) (by exact (pa_cons (pe_call F (hr.mono (by omega)) rfl T.row_told.g T.row_told.k T.row_told.b .nil pass0 (by exact (pa_cons (pe_ix (ix_tupK (K := K)) (pv 2) pe_int (fun _ _ => rfl)) pa_nil))) pa_nil))))))
    (pss_cons (ps_expr (pe_bm PySem.F.plainAttrs_list PySem.F.slot_list_extend PySem.F.type_list_extend mt_extend (pv 1) (by exact (pa_cons (pe_call (ok_deed_told T) (hr.mono (by omega)) rfl T.deed_told.g T.deed_told.k T.deed_told.b .nil pass0 (by exact (pa_cons (pe_ix (ix_tupK (K := K)) (pv 2) pe_int (fun _ _ => rfl)) pa_nil))) pa_nil))))
    (pss_one (ps_if (pt_cmp (pc_notN (pe_ix (ix_tupK (K := K)) (pe_ix (ix_tupK (K := K)) (pv 2) pe_int (fun _ _ => rfl)) pe_int (fun _ _ => rfl))))
    (pss_one (ps_expr (pe_bm PySem.F.plainAttrs_list PySem.F.slot_list_append PySem.F.type_list_append mt_append (pv 1) (by exact (pa_cons (pe_ix (ix_tupK (K := K)) (pv 2) pe_int (fun _ _ => rfl)) pa_nil)))))
    pss_nil)))))))
    (pss_one (ps_ret (pv 1))))), ?_⟩)
  · obtain ⟨v, p, rfl, _⟩ := h
    rfl
  · obtain ⟨v, p, rfl, ⟨a, vs, rfl, ha, hp⟩, hd, hpl, hl, hQ⟩ := h
    have hx := rows_to p vs hp
    have hrow : vs.length = p.row := by rw [← hx.1, row_len]
    refine ⟨_, rfl, a, vs, rfl, .inl (SqL.of ha), by show 1 ≤ sizeLine; decide, fun L hL => ?_⟩
    refine ⟨_, rfl, a, rfl, ⟨vs, SqL.of ((Same.new hL) _ _ ha)⟩, for_list (K := K) (a := a) (xs := vs)
      (fun i σ H' => ∃ v, σ = [some (.ref a), some (.ref L), v] ∧ Same H H' ∧ H' L = some (.lst (((p.row : Int) :: flatPieces (ofPcs ((pcsOf p).take i))).map V.int))) ⟨_, rfl, Same.new hL, by rw [upd_same, hrow]; rfl⟩
      (fun i σ H' _ ⟨_, _, s1, _⟩ => SqL.of (s1 _ _ ha)) ?_ ?_⟩
    · rintro i x σ H' hi ⟨v, rfl, s1, h1⟩
      obtain ⟨c, hc, hP⟩ := hx.getV hi
      have hm := List.mem_of_getElem? hc
      have hdp := dp_mem p c hm
      have hfl := flat_snoc c ((pcsOf p).take i)
      rw [← take_one hc] at hfl
      have hf1 := flatp_le (ofPcs ((pcsOf p).take i))
      have hs1 := size_take (pcsOf p) i
      have hs2 := size_take (pcsOf p) (i + 1)
      have hf2 := flatp_le (ofPcs ((pcsOf p).take (i + 1)))
      rw [of_pcs] at hs1 hs2
      have hlen : (((p.row : Int) :: flatPieces (ofPcs ((pcsOf p).take i))).map V.int).length ≤ 5001 := by rw [List.length_map, List.length_cons]; omega
      -- what the list is like when so much is behind it
      have key : ∀ (H2 : Hp) (zs : List Int) (u : Option V), Same H H2 → H2 L = some (.lst (((p.row : Int) :: flatPieces (ofPcs ((pcsOf p).take i))).map V.int ++ zs.map V.int)) → zs = flC c →
          ∃ v, [some (V.ref a), some (V.ref L), u] = [some (V.ref a), some (V.ref L), v] ∧ Same H H2 ∧ H2 L = some (.lst (((p.row : Int) :: flatPieces (ofPcs ((pcsOf p).take (i + 1)))).map V.int)) := by
        intro H2 zs u s2 h2 e
        refine ⟨u, rfl, s2, ?_⟩
        rw [h2, hfl, e, List.map_cons, List.map_cons, List.map_append, List.cons_append]
      rcases counted_mem hpl hm with ⟨dd, ss, rfl⟩ | ⟨n, b, rfl, hb⟩
      · obtain ⟨q, dv, rfl, hq, hdd⟩ := hP
        obtain ⟨p1, rfl, hp1⟩ := hdd
        refine ⟨_, rfl, tyL h1, _, rfl, q, _, 0, _, rfl, rfl, SqT.of (s1 _ _ hq), at0, L, _, _, rfl, rfl, h1, small6 (by omega), ?_⟩
        have hA := hlen
        generalize ((p.row : Int) :: flatPieces (ofPcs ((pcsOf p).take i))).map V.int = A at h1 hA key ⊢
        have s2 : Same H (upd H' L (.lst (A ++ [.int 0]))) := Same.mut s1 hL
        have h2 : (upd H' L (.lst (A ++ [.int 0]))) L = some (.lst (A ++ [.int 0])) := upd_same
        generalize upd H' L (.lst (A ++ [.int 0])) = H2 at s2 h2 ⊢
        have hfd := flat_le dd
        refine ⟨_, rfl, q, _, 0, _, rfl, rfl, SqT.of (s2 _ _ hq), at0, rfl, _, rfl, iteF ⟨_, rfl, tyL h2, _, rfl, q, _, 1, _, rfl, rfl, SqT.of (s2 _ _ hq), at1, .ref p1, dd, rfl, ⟨p1, rfl, s2 _ _ hp1⟩, fun H3 M s3 nM hM => ?_⟩⟩
        refine ⟨L, M, _, _, rfl, rfl, s3 _ _ h2, hM, Nat.le_of_lt (small6 (by rw [List.length_append, List.length_map]; simp; omega)), ?_⟩
        have s4 : Same H (upd H3 L (.lst (A ++ [.int 0] ++ (flatDeed dd).map V.int))) := Same.mut (s2.trans s3) hL
        have h4 : (upd H3 L (.lst (A ++ [.int 0] ++ (flatDeed dd).map V.int))) L = some (.lst (A ++ [.int 0] ++ (flatDeed dd).map V.int)) := upd_same
        generalize upd H3 L (.lst (A ++ [.int 0] ++ (flatDeed dd).map V.int)) = H4 at s4 h4 ⊢
        refine ⟨_, rfl, q, _, 1, _, rfl, rfl, SqT.of (s4 _ _ hq), at1, p1, _, 2, _, rfl, rfl, SqT.of (s4 _ _ hp1), at2, _, rfl, ?_⟩
        rw [optV_non]
        have hn := numOf_has dd
        cases en : numOf dd with
        | none =>
          rw [en] at hn
          refine iteF (key H4 (0 :: flatDeed dd) _ s4 ?_ ?_)
          · rw [h4, List.append_assoc]
            rfl
          · show _ = 0 :: (flatDeed dd ++ (if hasNumber dd then [ss] else []))
            rw [← hn]
            simp
        | some z =>
          rw [en] at hn
          refine iteT ⟨_, rfl, tyL h4, _, rfl, q, _, 2, _, rfl, rfl, SqT.of (s4 _ _ hq), at2, L, _, _, rfl, rfl, h4, small6 (by rw [List.length_append, List.length_append, List.length_map]; simp; omega), ?_⟩
          refine key _ (0 :: (flatDeed dd ++ [ss])) _ (Same.mut s4 hL) ?_ ?_
          · rw [upd_same, List.append_assoc, List.append_assoc]
            simp
          · show _ = 0 :: (flatDeed dd ++ (if hasNumber dd then [ss] else []))
            rw [← hn]
            simp
      · obtain ⟨q, bv, rfl, hq, hrow⟩ := hP
        cases d with
        | zero => exact absurd hdp (by show ¬ (b.depth + 1 ≤ _); omega)
        | succ d =>
          have hdp : b.depth + 1 ≤ p.depth := hdp
          have hsz : b.size + 1 ≤ p.size := sz_mem p _ hm
          have hfb := flatp_le b
          refine ⟨_, rfl, tyL h1, _, rfl, q, _, 0, _, rfl, rfl, SqT.of (s1 _ _ hq), at0, L, _, _, rfl, rfl, h1, small6 (by omega), ?_⟩
          have hA : (((p.row : Int) :: flatPieces (ofPcs ((pcsOf p).take i))).map V.int).length + (2 + (flatProg b).length) ≤ 5001 := by
            have e : (flatPieces (ofPcs ((pcsOf p).take (i + 1)))).length = (flatPieces (ofPcs ((pcsOf p).take i))).length + (2 + (flatProg b).length) := by
              rw [hfl, List.length_append]
              show _ + ((flatProg b).length + 1 + 1) = _
              omega
            rw [List.length_map, List.length_cons]
            omega
          generalize ((p.row : Int) :: flatPieces (ofPcs ((pcsOf p).take i))).map V.int = A at h1 hA key ⊢
          have s2 : Same H (upd H' L (.lst (A ++ [.int 1]))) := Same.mut s1 hL
          have h2 : (upd H' L (.lst (A ++ [.int 1]))) L = some (.lst (A ++ [.int 1])) := upd_same
          generalize upd H' L (.lst (A ++ [.int 1])) = H2 at s2 h2 ⊢
          refine ⟨_, rfl, q, _, 0, _, rfl, rfl, SqT.of (s2 _ _ hq), at0, rfl, _, rfl, iteT ⟨_, rfl, tyL h2, _, rfl, q, _, 1, _, rfl, rfl, SqT.of (s2 _ _ hq), at1, L, _, _, rfl, rfl, h2, small6 (by rw [List.length_append]; simp; omega), ?_⟩⟩
          have s3 : Same H (upd H2 L (.lst (A ++ [.int 1] ++ [.int (n : Nat)]))) := Same.mut s2 hL
          have h3 : (upd H2 L (.lst (A ++ [.int 1] ++ [.int (n : Nat)]))) L = some (.lst (A ++ [.int 1] ++ [.int (n : Nat)])) := upd_same
          generalize upd H2 L (.lst (A ++ [.int 1] ++ [.int (n : Nat)])) = H3 at s3 h3 ⊢
          refine ⟨_, rfl, tyL h3, _, rfl, q, _, 2, _, rfl, rfl, SqT.of (s3 _ _ hq), at2, bv, b, rfl, (Kept.of s3).row hrow, by omega, hb, by omega, fun H4 M s4 nM hM => ?_⟩
          refine ⟨L, M, _, _, rfl, rfl, s4 _ _ h3, hM, Nat.le_of_lt (small6 (by rw [List.length_append, List.length_append, List.length_map]; simp; omega)), ?_⟩
          refine key _ (1 :: (n : Int) :: flatProg b) _ (Same.mut (s3.trans s4) hL) ?_ rfl
          rw [upd_same, List.append_assoc, List.append_assoc]
          rfl
    · rintro σ H' ⟨v, rfl, s1, h1⟩
      refine ⟨_, rfl, ?_⟩
      rw [← hx.1, List.take_length, of_pcs] at h1
      exact hQ H' L s1 hL h1
theorem ok_rtold_n {P : Program} {w : World} {K : PySem.W.Frag} {mg : Str → Option Value} {base : Heap} (T : Txt K mg) : ∀ d : Nat, FnOk P w K mg base CX0 (d + 1) T.row_told.f T.row_told.fd ["row"] (spRowTold d)
  | 0 => bot_ok fun _ _ _ _ h => h
  | d + 1 => rtold_of T (ok_rtold_n T d)
theorem ok_row_told {P : Program} {w : World} {K : PySem.W.Frag} {mg : Str → Option Value} {base : Heap} (T : Txt K mg) : FnOk P w K mg base CX0 5 T.row_told.f T.row_told.fd ["row"] (spRowTold 4) := ok_rtold_n T 4
end My
namespace My
open PySem PySem.Spec PyProof.Rows L2
open VamacBase (Deed Prog)
/-! ### spans -/
def spF (a : Addr) (p m k : Nat) : List (Str × V) := [("recording", .ref a), ("place", .int (p : Int)), ("length", .int (m : Int)), ("rounds", .int (k : Int))]
section
variable {a : Addr} {p m k : Nat}
theorem spF_recording : (spF a p m k).lookup ("recording" : Str) = some (.ref a) := by kernel_rfl
theorem spF_place : (spF a p m k).lookup ("place" : Str) = some (.int (p : Int)) := by kernel_rfl
theorem spF_length : (spF a p m k).lookup ("length" : Str) = some (.int (m : Int)) := by kernel_rfl
theorem spF_rounds : (spF a p m k).lookup ("rounds" : Str) = some (.int (k : Int)) := by kernel_rfl
theorem spF_new : putF "rounds" (.int (k : Int)) (putF "length" (.int (m : Int)) (putF "place" (.int (p : Int)) (putF "recording" (.ref a) []))) = spF a p m k := by kernel_rfl
theorem spF_m_at : (spF a p m k).lookup ("at" : Str) = none := by kernel_rfl
theorem spF_m_step_at : (spF a p m k).lookup ("step_at" : Str) = none := by kernel_rfl
theorem spF_m_is_same_at : (spF a p m k).lookup ("is_same_at" : Str) = none := by kernel_rfl
theorem spF_m_is_plain_loop : (spF a p m k).lookup ("is_plain_loop" : Str) = none := by kernel_rfl
theorem spF_m_deed_piece : (spF a p m k).lookup ("deed_piece" : Str) = none := by kernel_rfl
theorem spF_m_plain_piece : (spF a p m k).lookup ("plain_piece" : Str) = none := by kernel_rfl
theorem spF_m_inner_spans : (spF a p m k).lookup ("inner_spans" : Str) = none := by kernel_rfl
theorem spF_m_are_same : (spF a p m k).lookup ("are_same" : Str) = none := by kernel_rfl
theorem spF_m_long : (spF a p m k).lookup ("long" : Str) = none := by kernel_rfl
theorem spF_m_many_bodies : (spF a p m k).lookup ("many_bodies" : Str) = none := by kernel_rfl
theorem spF_m_least_body : (spF a p m k).lookup ("least_body" : Str) = none := by kernel_rfl
end
/-- a recording: a list of deeds -/
structure Rec (H : Hp) (l : List Deed) (a : Addr) (ws : List V) : Prop where
  at_ : H a = some (.lst ws)
  all : All2 (DeedAt H) l ws
theorem Rec.same {H H' : Hp} {l : List Deed} {a : Addr} {ws : List V} (r : Rec H l a ws) (e : Same H H') : Rec H' l a ws := ⟨e _ _ r.at_, r.all.mono fun _ _ h => h.same e⟩
theorem Rec.deed {H : Hp} {l : List Deed} {a : Addr} {ws : List V} (r : Rec H l a ws) {i : Nat} (h : i < l.length) : ∃ dv, ws[i]? = some dv ∧ DeedAt H (dAt l i) dv := r.all.get (get_dAt h)
/-- an object Span of a recording -/
structure Spn (C : Addr) (H : Hp) (q : Addr) (l : List Deed) (a : Addr) (ws : List V) (p m k : Nat) : Prop where
  at_ : ∃ dx, H q = some (.ins C dx (spF a p m k))
  rc : Rec H l a ws
  m1 : 1 ≤ m
  k2 : 2 ≤ k
  fit : p + m * k ≤ l.length
  few : l.length ≤ 14
section
variable {C : Addr} {H H' : Hp} {q : Addr} {l : List Deed} {a : Addr} {ws : List V} {p m k : Nat}
theorem Spn.same (S : Spn C H q l a ws p m k) (e : Same H H') : Spn C H' q l a ws p m k := let ⟨dx, h⟩ := S.at_; ⟨⟨dx, e _ _ h⟩, S.rc.same e, S.m1, S.k2, S.fit, S.few⟩
theorem Spn.k14 (S : Spn C H q l a ws p m k) : k ≤ 14 := by
  have h1 : 1 * k ≤ m * k := Nat.mul_le_mul_right k S.m1
  have := S.fit
  have := S.few
  omega
theorem Spn.m7 (S : Spn C H q l a ws p m k) : m ≤ 7 := by
  have h1 : m * 2 ≤ m * k := Nat.mul_le_mul_left m S.k2
  have := S.fit
  have := S.few
  omega
theorem Spn.lt (S : Spn C H q l a ws p m k) {o : Nat} (ho : o < m) {i : Nat} (hi : i < k) : p + i * m + o < l.length := by
  have := mul_le_of_lt (m := m) hi
  have := S.fit
  omega
theorem Spn.lt0 (S : Spn C H q l a ws p m k) {o : Nat} (ho : o < m) : p + o < l.length := by
  have := S.lt ho (i := 0) (by have := S.k2; omega)
  simpa using this
end
def spSpanInit (C : Addr) : Sp := fun vs H Q _ => ∃ (x dx a : Addr) (p m k : Nat), vs = [.ref x, .ref a, .int (p : Nat), .int (m : Nat), .int (k : Nat)] ∧ H x = some (.ins C dx []) ∧
  ∀ H' : Hp, H' x = some (.ins C dx (spF a p m k)) → But x H H' → Q .non H'
theorem sc_Span_init : FnScope ["self", "recording", "place", "length", "rounds"] ["self", "recording", "place", "length", "rounds"] (defScope s_Span_init) := ⟨rfl, rfl, rfl, by decide +kernel, rfl, by decide +kernel, by decide +kernel⟩
theorem ok_Span_init {P : Program} {w : World} {K : PySem.W.Frag} {mg : Str → Option Value} {base : Heap} (T : Txt K mg) : FnOk P w K mg base CX0 1 T.Span_init.f T.Span_init.fd ["self", "recording", "place", "length", "rounds"] (spSpanInit T.Span.C) := by
  refine T.Span_init.F.ok sc_Span_init (fun vs H Q E h => ?_) (fun cdv A outer s H vs Q E hr h => ⟨_, (pss_cons (ps_fldK (K := K) (pv 0) (pv 1) rfl)
    (pss_cons (ps_fldK (K := K) (pv 0) (pv 2) rfl)
    (pss_cons (ps_fldK (K := K) (pv 0) (pv 3) rfl)
    (pss_one (ps_fldK (K := K) (pv 0) (pv 4) rfl))))), ?_⟩)
  · obtain ⟨x, dx, a, p, m, k, rfl, _⟩ := h
    rfl
  · obtain ⟨x, dx, a, p, m, k, rfl, hx, hQ⟩ := h
    refine ⟨_, rfl, _, rfl, x, _, dx, [], rfl, hx, T.Span.cl, T.n_Span_recording, (by show 0 < 1000; decide), ?_⟩
    refine ⟨_, rfl, _, rfl, x, _, dx, _, rfl, upd_same, T.Span.cl, T.n_Span_place, (by show 1 < 1000; decide), ?_⟩
    refine ⟨_, rfl, _, rfl, x, _, dx, _, rfl, upd_same, T.Span.cl, T.n_Span_length, (by show 2 < 1000; decide), ?_⟩
    refine ⟨_, rfl, _, rfl, x, _, dx, _, rfl, upd_same, T.Span.cl, T.n_Span_rounds, (by show 3 < 1000; decide), ?_⟩
    exact hQ _ (by rw [← spF_new]; exact upd_same) (((But.wr.trans But.wr).trans But.wr).trans But.wr)
/-- at -/
def spAt (C : Addr) : Sp := fun vs H Q _ => ∃ (q : Addr) (o : Nat) (l : List Deed) (a : Addr) (ws : List V) (p m k : Nat), vs = [.ref q, .int (o : Nat)] ∧ Spn C H q l a ws p m k ∧ o < m ∧
  ∀ H' v, Same H H' → DeedsAt H' (colL l p m k o) v → Q v H'
theorem sc_Span_at : FnScope ["self", "offset", "turn"] ["self", "offset"] (defScope s_Span_at) := ⟨rfl, rfl, rfl, by decide +kernel, rfl, by decide +kernel, by decide +kernel⟩
theorem ok_Span_at {P : Program} {w : World} {K : PySem.W.Frag} {mg : Str → Option Value} {base : Heap} (T : Txt K mg) : FnOk P w K mg base CX0 1 T.Span_at.f T.Span_at.fd ["self", "offset"] (spAt T.Span.C) := by
  refine T.Span_at.F.ok sc_Span_at (fun vs H Q E h => ?_) (fun cdv A outer s H vs Q E hr h => ⟨_, (pss_one (ps_ret (pe_lc (own := [("turn", 2)]) rfl sc_Span_at.nd (pi_range1 (by rfl) T.z_range (by exact (pa_cons (pe_fldK (K := K) (pv 0) rfl) pa_nil))) (blkOk_by (N := ["self", "offset", "turn"]) (sc := defScope s_Span_at) (by decide +kernel)) (fun _ _ _ _ _ => (pg_name (i := 2) sc_Span_at.nd rfl (Or.inl rfl))) (fun _ _ _ _ _ => pts_nil) (fun _ _ _ _ _ => (pe_ix (ix_listK (K := K)) (pe_fldK (K := K) (pv 0) rfl) (pe_op op_add (pe_op op_add (pe_fldK (K := K) (pv 0) rfl) (pe_op op_mul (pv 2) (pe_fldK (K := K) (pv 0) rfl))) (pv 1)) (fun _ _ => rfl)))))), ?_⟩)
  · obtain ⟨q, o, l, a, ws, p, m, k, rfl, _⟩ := h
    rfl
  · obtain ⟨q, o, l, a, ws, p, m, k, rfl, S, ho, hQ⟩ := h
    obtain ⟨dx, hS⟩ := S.at_
    have hk := S.k14
    have hm := S.m7
    refine r_ret ⟨_, rfl, q, _, dx, _, _, rfl, hS, T.Span.cl, T.n_Span_rounds, spF_rounds, k, rfl, by omega, by omega, fun D hD => ?_⟩
    refine lc_range (lo := 0) (n := k) (fun i H' => Same H H' ∧ ∃ xs, H' D = some (.lst xs) ∧ All2 (DeedAt H') ((List.range i).map fun j => dAt l (p + j * m + o)) xs) ⟨Same.new hD, [], upd_same, All2.nil⟩ ?_ ?_
    · rintro i H' hi ⟨s1, xs, h1, hx⟩
      obtain ⟨dv, e1, e2⟩ := (S.rc.same s1).deed (S.lt ho hi)
      have hS1 := s1 _ _ hS
      have hat : atI ws ((p : Nat) + (0 + (i : Nat)) * (m : Nat) + (o : Nat) : Int) = some dv := by
        have e : ((p : Nat) + (0 + (i : Nat)) * (m : Nat) + (o : Nat) : Int) = ((p + i * m + o : Nat) : Int) := by
          rw [Int.zero_add, Int.natCast_add, Int.natCast_add, Int.natCast_mul]
        rw [e]
        exact atI_nat e1
      refine ⟨rfl, _, rfl, q, _, dx, _, _, rfl, hS1, T.Span.cl, T.n_Span_recording, spF_recording, _, rfl, q, _, dx, _, _, rfl, hS1, T.Span.cl, T.n_Span_place, spF_place, _, rfl, _, rfl, q, _, dx, _, _, rfl, hS1, T.Span.cl, T.n_Span_length, spF_length, _, _, rfl, rfl, .inl ⟨by omega, by omega⟩, _, _, rfl, rfl, _, rfl, _, _, rfl, rfl, a, ws, _, dv, rfl, rfl, SqL.of (s1 _ _ S.rc.at_), hat, ?_⟩
      have hb : But D H' (upd H' D (.lst (xs ++ [dv]))) := But.wr
      have hlen : xs.length = i := by rw [← hx.1, List.length_map, List.length_range]
      refine ⟨xs, h1, small1000 (by omega), Same.mut s1 hD, _, upd_same, ?_⟩
      rw [List.range_succ, List.map_append]
      exact All2.snoc (hx.mono fun d v h => h.butL hb h1) (e2.butL hb h1)
    · rintro H' ⟨s1, xs, h1, hx⟩
      exact hQ H' _ s1 ⟨D, xs, rfl, h1, hx⟩
/-- step_at -/
def spStepAt (C : Addr) : Sp := fun vs H Q _ => ∃ (q : Addr) (o : Nat) (l : List Deed) (a : Addr) (ws : List V) (p m k : Nat), vs = [.ref q, .int (o : Nat)] ∧ Spn C H q l a ws p m k ∧ o < m ∧
  ∀ H', Same H H' → Q (optV (stepAt l p m k o)) H'
theorem sc_Span_step_at : FnScope ["self", "offset"] ["self", "offset"] (defScope s_Span_step_at) := ⟨rfl, rfl, rfl, by decide +kernel, rfl, by decide +kernel, by decide +kernel⟩
theorem ok_Span_step_at {P : Program} {w : World} {K : PySem.W.Frag} {mg : Str → Option Value} {base : Heap} (T : Txt K mg) : FnOk P w K mg base CX0 2 T.Span_step_at.f T.Span_step_at.fd ["self", "offset"] (spStepAt T.Span.C) := by
  refine T.Span_step_at.F.ok sc_Span_step_at (fun vs H Q E h => ?_) (fun cdv A outer s H vs Q E hr h => ⟨_, (pss_one (ps_ret (pe_call (ok_step_of T) (hr.mono (by decide)) rfl T.step_of.g T.step_of.k T.step_of.b .nil pass0 (by exact (pa_cons (pe_meth (pv 0) T.Span.cl T.Span_at.m (ok_Span_at T) (hr.mono (by decide)) T.Span_at.b .nil pass0 (by exact (pa_cons (pv 1) pa_nil))) pa_nil))))), ?_⟩)
  · obtain ⟨q, o, l, a, ws, p, m, k, rfl, _⟩ := h
    rfl
  · obtain ⟨q, o, l, a, ws, p, m, k, rfl, S, ho, hQ⟩ := h
    obtain ⟨dx, hS⟩ := S.at_
    have hk := S.k14
    have hlen : (colL l p m k o).length = k := by unfold colL; rw [List.length_map, List.length_range]
    refine r_ret ⟨_, rfl, q, dx, _, rfl, hS, spF_m_at, _, rfl, q, o, l, a, ws, p, m, k, rfl, S, ho, fun H1 v s1 hv => ?_⟩
    refine ⟨v, colL l p m k o, rfl, hv, fun z => ?_, by omega, fun H2 s2 => hQ H2 (s1.trans s2)⟩
    rw [z] at hlen
    have := S.k2
    simp at hlen
    omega
/-! ### deeds compared -/
def deedD (d : Deed) : PyData := .tuple [.int (kindOf d), optD (fldOf d), optD (numOf d)]
theorem dp_deed {K : PySem.W.Frag} {H : Hp} {d : Deed} {v : V} (h : DeedAt H d v) : Dp K H v (deedD d) := by
  obtain ⟨p, rfl, h⟩ := h
  exact .tup (SqT.of h) (.cons (.int _) (.cons (dp_opt _) (.cons (dp_opt _) .nil)))
theorem shaped_deed (d : Deed) : SeqAt.shaped (deedD d) = true := by
  unfold deedD
  cases fldOf d <;> cases numOf d <;> rfl
theorem eqv_deed (a b : Deed) : PyData.eqv (deedD a) (deedD b) = (a == b) := by
  have e : PyData.eqv (deedD a) (deedD b) = (decide (kindOf a = kindOf b) && (decide (fldOf a = fldOf b) && decide (numOf a = numOf b))) := by
    simp [deedD, PyData.eqv, PyData.eqvAll, eqv_opt, beq_dec]
  rw [e, Bool.eq_iff_iff, Bool.and_eq_true, Bool.and_eq_true, decide_eq_true_iff, decide_eq_true_iff, decide_eq_true_iff, beq_iff_eq]
  constructor
  · rintro ⟨h1, h2, h3⟩
    exact deed_ext h1 h2 h3
  · rintro rfl
    exact ⟨rfl, rfl, rfl⟩
/-- is_same_at -/
def spIsSameAt (C : Addr) : Sp := fun vs H Q _ => ∃ (q : Addr) (o : Nat) (l : List Deed) (a : Addr) (ws : List V) (p m k : Nat), vs = [.ref q, .int (o : Nat)] ∧ Spn C H q l a ws p m k ∧ o < m ∧
  ∀ H', Same H H' → Q (.bl (sameAt l p m k o)) H'
theorem sc_Span_is_same_at : FnScope ["self", "offset", "deed"] ["self", "offset"] (defScope s_Span_is_same_at) := ⟨rfl, rfl, rfl, by decide +kernel, rfl, by decide +kernel, by decide +kernel⟩
theorem ok_Span_is_same_at {P : Program} {w : World} {K : PySem.W.Frag} {mg : Str → Option Value} {base : Heap} (T : Txt K mg) : FnOk P w K mg base CX0 2 T.Span_is_same_at.f T.Span_is_same_at.fd ["self", "offset"] (spIsSameAt T.Span.C) := by
  refine T.Span_is_same_at.F.ok sc_Span_is_same_at (fun vs H Q E h => ?_) (fun cdv A outer s H vs Q E hr h => ⟨_, (pss_one (ps_ret (pe_callB (cr_allK (K := K) rfl) (by rfl) T.z_all (by decide +kernel) (by exact (pa_cons (pe_lc (own := [("deed", 2)]) rfl sc_Span_is_same_at.nd (pi_listK (K := K) (pe_meth (pv 0) T.Span.cl T.Span_at.m (ok_Span_at T) (hr.mono (by decide)) T.Span_at.b .nil pass0 (by exact (pa_cons (pv 1) pa_nil)))) (blkOk_by (N := ["self", "offset", "deed"]) (sc := defScope s_Span_is_same_at) (by decide +kernel)) (fun _ _ _ _ _ => (pg_name (i := 2) sc_Span_is_same_at.nd rfl (Or.inl rfl))) (fun _ _ _ _ _ => pts_nil) (fun _ _ _ _ _ => (pe_cmpR (op_eqDK (K := K) hr.units) (pv 2) (pe_ix (ix_listK (K := K)) (pe_fldK (K := K) (pv 0) rfl) (pe_op op_add (pe_fldK (K := K) (pv 0) rfl) (pv 1)) (fun _ _ => rfl)) (nomark _)))) pa_nil))))), ?_⟩)
  · obtain ⟨q, o, l, a, ws, p, m, k, rfl, _⟩ := h
    rfl
  · obtain ⟨q, o, l, a, ws, p, m, k, rfl, S, ho, hQ⟩ := h
    obtain ⟨dx, hS⟩ := S.at_
    have hk := S.k14
    have hlen : (colL l p m k o).length = k := by unfold colL; rw [List.length_map, List.length_range]
    refine r_ret ⟨_, rfl, q, dx, _, rfl, hS, spF_m_at, _, rfl, q, o, l, a, ws, p, m, k, rfl, S, ho, fun H1 v s1 hv => ?_⟩
    obtain ⟨b, ys, rfl, hb, hy⟩ := hv
    refine ⟨b, rfl, ⟨ys, SqL.of hb⟩, fun D hD => ?_⟩
    refine lc_list (K := K) (a := b) (xs := ys) (fun i H' => Same H1 H' ∧ H' D = some (.lst ((((colL l p m k o).take i).map fun d => d == dAt l (p + o)).map V.bl))) ⟨Same.new hD, upd_same⟩ (fun i H' _ h' => SqL.of (h'.1 _ _ hb)) ?_ ?_
    · rintro i x H' hi ⟨s2, h1⟩
      obtain ⟨d, hd, hR⟩ := hy.getV hi
      have hS1 := s2 _ _ (s1 _ _ hS)
      obtain ⟨dv, e1, e2⟩ := (S.rc.same (s1.trans s2)).deed (S.lt0 ho)
      have hat : atI ws ((p : Nat) + (o : Nat) : Int) = some dv := by
        rw [← Int.natCast_add]
        exact atI_nat e1
      refine ⟨rfl, _, rfl, _, rfl, q, _, dx, _, _, rfl, hS1, T.Span.cl, T.n_Span_recording, spF_recording, _, rfl, q, _, dx, _, _, rfl, hS1, T.Span.cl, T.n_Span_place, spF_place, _, rfl, _, _, rfl, rfl, a, ws, _, dv, rfl, rfl, SqL.of (s2 _ _ (s1 _ _ S.rc.at_)), hat, deedD d, deedD (dAt l (p + o)), dp_deed (hR.same s2), dp_deed e2, shaped_deed _, shaped_deed _, ?_⟩
      rw [eqv_deed]
      refine ⟨_, h1, ?_, Same.mut s2 hD, ?_⟩
      · rw [List.length_map, List.length_map, List.length_take]
        exact small1000 (by omega)
      · rw [upd_same, take_one hd, List.map_append, List.map_append]
        rfl
    · rintro H2 ⟨s2, h1⟩
      rw [← hy.1, List.take_length] at h1
      refine ⟨D, _, rfl, SqL.of h1, ?_⟩
      rw [List.all_map]
      exact hQ H2 (s1.trans s2)
/-- is_plain_loop -/
def spIsPlainLoop (C : Addr) : Sp := fun vs H Q _ => ∃ (q : Addr) (l : List Deed) (a : Addr) (ws : List V) (p m k : Nat), vs = [.ref q] ∧ Spn C H q l a ws p m k ∧
  ∀ H', Same H H' → Q (.bl (plainL l p m k)) H'
theorem sc_Span_is_plain_loop : FnScope ["self", "offset"] ["self"] (defScope s_Span_is_plain_loop) := ⟨rfl, rfl, rfl, by decide +kernel, rfl, by decide +kernel, by decide +kernel⟩
theorem ok_Span_is_plain_loop {P : Program} {w : World} {K : PySem.W.Frag} {mg : Str → Option Value} {base : Heap} (T : Txt K mg) : FnOk P w K mg base CX0 3 T.Span_is_plain_loop.f T.Span_is_plain_loop.fd ["self"] (spIsPlainLoop T.Span.C) := by
  refine T.Span_is_plain_loop.F.ok sc_Span_is_plain_loop (fun vs H Q E h => ?_) (fun cdv A outer s H vs Q E hr h => ⟨_, (pss_one (ps_ret (pe_callB (cr_allK (K := K) rfl) (by rfl) T.z_all (by decide +kernel) (by exact (pa_cons (pe_lc (own := [("offset", 1)]) rfl sc_Span_is_plain_loop.nd (pi_range1 (by rfl) T.z_range (by exact (pa_cons (pe_fldK (K := K) (pv 0) rfl) pa_nil))) (blkOk_by (N := ["self", "offset"]) (sc := defScope s_Span_is_plain_loop) (by decide +kernel)) (fun _ _ _ _ _ => (pg_name (i := 1) sc_Span_is_plain_loop.nd rfl (Or.inl rfl))) (fun _ _ _ _ _ => pts_nil) (fun _ _ _ _ _ => (pe_cmp (pc_notN (pe_meth (pv 0) T.Span.cl T.Span_step_at.m (ok_Span_step_at T) (hr.mono (by decide)) T.Span_step_at.b .nil pass0 (by exact (pa_cons (pv 1) pa_nil)))) rfl))) pa_nil))))), ?_⟩)
  · obtain ⟨q, l, a, ws, p, m, k, rfl, _⟩ := h
    rfl
  · obtain ⟨q, l, a, ws, p, m, k, rfl, S, hQ⟩ := h
    obtain ⟨dx, hS⟩ := S.at_
    have hm := S.m7
    refine r_ret ⟨_, rfl, q, _, dx, _, _, rfl, hS, T.Span.cl, T.n_Span_length, spF_length, m, rfl, by omega, by omega, fun D hD => ?_⟩
    refine lc_range (lo := 0) (n := m) (fun i H' => Same H H' ∧ H' D = some (.lst (((List.range i).map fun o => (stepAt l p m k o).isSome).map V.bl))) ⟨Same.new hD, upd_same⟩ ?_ ?_
    · rintro i H' hi ⟨s1, h1⟩
      have hS1 := s1 _ _ hS
      refine ⟨rfl, _, rfl, q, dx, _, rfl, hS1, spF_m_step_at, _, rfl, q, i, l, a, ws, p, m, k, (by rw [Int.zero_add]; rfl), S.same s1, hi, fun H2 s2 => ?_⟩
      refine ⟨_, s2 _ _ h1, ?_, Same.mut (s1.trans s2) hD, ?_⟩
      · rw [List.length_map, List.length_map, List.length_range]
        exact small1000 (by omega)
      · rw [upd_same, List.range_succ, List.map_append, List.map_append]
        have e : (!decide (optV (stepAt l p m k i) = V.non)) = (stepAt l p m k i).isSome := by
          rw [optV_non]
          cases stepAt l p m k i <;> rfl
        rw [e]
        rfl
    · rintro H2 ⟨s1, h1⟩
      refine ⟨D, _, rfl, SqL.of h1, ?_⟩
      rw [List.all_map]
      exact hQ H2 s1
/-- long -/
def spLong (C : Addr) : Sp := fun vs H Q _ => ∃ (q : Addr) (l : List Deed) (a : Addr) (ws : List V) (p m k : Nat), vs = [.ref q] ∧ Spn C H q l a ws p m k ∧ Q (.int (m * k : Nat)) H
theorem sc_Span_long : FnScope ["self"] ["self"] (defScope s_Span_long) := ⟨rfl, rfl, rfl, by decide +kernel, rfl, by decide +kernel, by decide +kernel⟩
theorem ok_Span_long {P : Program} {w : World} {K : PySem.W.Frag} {mg : Str → Option Value} {base : Heap} (T : Txt K mg) : FnOk P w K mg base CX0 1 T.Span_long.f T.Span_long.fd ["self"] (spLong T.Span.C) := by
  refine T.Span_long.F.ok sc_Span_long (fun vs H Q E h => ?_) (fun cdv A outer s H vs Q E hr h => ⟨_, (pss_one (ps_ret (pe_op op_mul (pe_fldK (K := K) (pv 0) rfl) (pe_fldK (K := K) (pv 0) rfl)))), ?_⟩)
  · obtain ⟨q, l, a, ws, p, m, k, rfl, _⟩ := h
    rfl
  · obtain ⟨q, l, a, ws, p, m, k, rfl, S, hQ⟩ := h
    obtain ⟨dx, hS⟩ := S.at_
    have hm := S.m7
    refine r_ret ⟨_, rfl, q, _, dx, _, _, rfl, hS, T.Span.cl, T.n_Span_length, spF_length, _, rfl, q, _, dx, _, _, rfl, hS, T.Span.cl, T.n_Span_rounds, spF_rounds, _, _, rfl, rfl, .inl ⟨by omega, by omega⟩, ?_⟩
    rw [Int.natCast_mul] at hQ
    exact hQ
/-- are_same -/
def spAreSame (C : Addr) : Sp := fun vs H Q _ => ∃ (q : Addr) (o n : Nat) (l : List Deed) (a : Addr) (ws : List V) (p m k : Nat), vs = [.ref q, .int (o : Nat), .int (n : Nat)] ∧ Spn C H q l a ws p m k ∧ o + n ≤ m ∧
  ∀ H', Same H H' → Q (.bl (areSame l p m k o n)) H'
theorem sc_Span_are_same : FnScope ["self", "offset", "many", "one"] ["self", "offset", "many"] (defScope s_Span_are_same) := ⟨rfl, rfl, rfl, by decide +kernel, rfl, by decide +kernel, by decide +kernel⟩
theorem ok_Span_are_same {P : Program} {w : World} {K : PySem.W.Frag} {mg : Str → Option Value} {base : Heap} (T : Txt K mg) : FnOk P w K mg base CX0 3 T.Span_are_same.f T.Span_are_same.fd ["self", "offset", "many"] (spAreSame T.Span.C) := by
  refine T.Span_are_same.F.ok sc_Span_are_same (fun vs H Q E h => ?_) (fun cdv A outer s H vs Q E hr h => ⟨_, (pss_one (ps_ret (pe_callB (cr_allK (K := K) rfl) (by rfl) T.z_all (by decide +kernel) (by exact (pa_cons (pe_lc (own := [("one", 3)]) rfl sc_Span_are_same.nd (pi_range2 (by rfl) T.z_range (by exact (pa_cons (pv 1) (pa_cons (pe_op op_add (pv 1) (pv 2)) pa_nil)))) (blkOk_by (N := ["self", "offset", "many", "one"]) (sc := defScope s_Span_are_same) (by decide +kernel)) (fun _ _ _ _ _ => (pg_name (i := 3) sc_Span_are_same.nd rfl (Or.inl rfl))) (fun _ _ _ _ _ => pts_nil) (fun _ _ _ _ _ => (pe_meth (pv 0) T.Span.cl T.Span_is_same_at.m (ok_Span_is_same_at T) (hr.mono (by decide)) T.Span_is_same_at.b .nil pass0 (by exact (pa_cons (pv 3) pa_nil))))) pa_nil))))), ?_⟩)
  · obtain ⟨q, o, n, l, a, ws, p, m, k, rfl, _⟩ := h
    rfl
  · obtain ⟨q, o, n, l, a, ws, p, m, k, rfl, S, ho, hQ⟩ := h
    obtain ⟨dx, hS⟩ := S.at_
    have hm := S.m7
    refine r_ret ⟨_, rfl, _, rfl, _, rfl, _, _, rfl, rfl, _, _, rfl, ⟨by omega, by omega, by omega, by omega⟩, fun D hD => ?_⟩
    have en : ((o : Int) + (n : Int) - (o : Int)).toNat = n := by omega
    rw [en]
    refine lc_range (lo := (o : Int)) (n := n) (fun i H' => Same H H' ∧ H' D = some (.lst (((List.range i).map fun j => sameAt l p m k (o + j)).map V.bl))) ⟨Same.new hD, upd_same⟩ ?_ ?_
    · rintro i H' hi ⟨s1, h1⟩
      have hS1 := s1 _ _ hS
      refine ⟨rfl, _, rfl, q, dx, _, rfl, hS1, spF_m_is_same_at, _, rfl, q, o + i, l, a, ws, p, m, k, rfl, S.same s1, by omega, fun H2 s2 => ?_⟩
      refine ⟨_, s2 _ _ h1, ?_, Same.mut (s1.trans s2) hD, ?_⟩
      · rw [List.length_map, List.length_map, List.length_range]
        exact small1000 (by omega)
      · rw [upd_same, List.range_succ, List.map_append, List.map_append]
        rfl
    · rintro H2 ⟨s1, h1⟩
      refine ⟨D, _, rfl, SqL.of h1, ?_⟩
      rw [List.all_map]
      exact hQ H2 s1
end My
namespace My
open PySem PySem.Spec PyProof.Rows L2
open VamacBase (Deed Prog)
/-- spans_at, its inner loop and its outer one -/
def spRow1 (p e m : Nat) : List (Nat × Nat) := ((List.range (Nat.min 9 ((e - p) / m) + 1)).drop 2).map fun k => (m, k)
def spUp (p e i : Nat) : List (Nat × Nat) := (List.range' 1 i).flatMap (spRow1 p e)
theorem spUp_all (p e : Nat) : spUp p e ((e - p) / 2) = spansOf p e := by
  unfold spUp spansOf
  rw [range_drop]
  rfl
theorem spRow1_eq (p e m : Nat) : spRow1 p e m = (List.range' 2 (Nat.min 9 ((e - p) / m) + 1 - 2)).map fun k => (m, k) := by
  unfold spRow1
  rw [range_drop]
theorem spRow1_le (p e m : Nat) : (spRow1 p e m).length ≤ 8 := by
  rw [spRow1_eq, List.length_map, List.length_range']
  have : Nat.min 9 ((e - p) / m) ≤ 9 := Nat.min_le_left _ _
  omega
theorem spUp_succ (p e i : Nat) : spUp p e (i + 1) = spUp p e i ++ spRow1 p e (1 + i) := by
  unfold spUp
  rw [List.range'_1_concat, List.flatMap_append]
  simp
theorem spUp_le (p e : Nat) : ∀ i, (spUp p e i).length ≤ 8 * i
  | 0 => Nat.le_refl _
  | i + 1 => by
    have := spUp_le p e i
    have := spRow1_le p e (1 + i)
    rw [spUp_succ, List.length_append]
    omega
/-- new spans of a recording at a, told by an object each -/
def NewSp (C : Addr) (H H' : Hp) (a : Addr) (p : Nat) : Nat × Nat → V → Prop := fun x v => ∃ r dx, v = .ref r ∧ H r = none ∧ H' r = some (.ins C dx (spF a p x.1 x.2))
theorem NewSp.same {C : Addr} {H H' H2 : Hp} {a : Addr} {p : Nat} {x : Nat × Nat} {v : V} (e : Same H' H2) (h : NewSp C H H' a p x v) : NewSp C H H2 a p x v :=
  let ⟨r, dx, h1, h2, h3⟩ := h
  ⟨r, dx, h1, h2, e _ _ h3⟩
theorem NewSp.butL {C : Addr} {H H' H2 : Hp} {a : Addr} {p : Nat} {x : Nat × Nat} {v : V} {L : Addr} {xs : List V} (e : But L H' H2) (hL : H' L = some (.lst xs)) (h : NewSp C H H' a p x v) : NewSp C H H2 a p x v :=
  let ⟨r, dx, h1, h2, h3⟩ := h
  ⟨r, dx, h1, h2, e _ _ h3 (ne_of h3 hL (by intro z; cases z))⟩
theorem make_span {C : Addr} {E : XK} {σ : L2.St} {H : Hp} {Q : VK} {a : Addr} {p m k : Nat} {t : TA} (ht : ∀ QQ : List V → Hp → Prop, QQ [.ref a, .int (p : Nat), .int (m : Nat), .int (k : Nat)] H → t σ H QQ)
    (hQ : ∀ x dx H', H x = none → Same H H' → H' x = some (.ins C dx (spF a p m k)) → Q (.ref x) H') : tMake C (spSpanInit C) [] E t σ H Q := by
  refine ht _ ?_
  intro x dx nx nd ne
  have s1 : Same H (upd (upd H dx (.own x)) x (.ins C dx [])) := Same.mut (Same.new nd) nx
  exact ⟨x, dx, a, p, m, k, rfl, upd_same, fun H' h' bt => ⟨rfl, hQ x dx H' nx (fun c o e => bt c o (s1 c o e) (ne_of_none e nx)) h'⟩⟩
def spSpansAt (C : Addr) : Sp := fun vs H Q _ => ∃ (a : Addr) (p e : Nat), vs = [.ref a, .int (p : Nat), .int (e : Nat)] ∧ p ≤ e ∧ e ≤ 14 ∧
  ∀ H' L ys, Same H H' → H L = none → H' L = some (.lst ys) → All2 (NewSp C H H' a p) (spansOf p e) ys → Q (.ref L) H'
theorem sc_spans_at : FnScope ["recording", "place", "end", "found", "length", "rounds"] ["recording", "place", "end"] (defScope s_spans_at) := ⟨rfl, rfl, rfl, by decide +kernel, rfl, by decide +kernel, by decide +kernel⟩
theorem ok_spans_at {P : Program} {w : World} {K : PySem.W.Frag} {mg : Str → Option Value} {base : Heap} (T : Txt K mg) : FnOk P w K mg base CX0 3 T.spans_at.f T.spans_at.fd ["recording", "place", "end"] (spSpansAt T.Span.C) := by
  refine T.spans_at.F.ok sc_spans_at (fun vs H Q E h => ?_) (fun cdv A outer s H vs Q E hr h => ⟨_, (pss_cons (ps_set (i := 3) sc_spans_at.nd rfl (Or.inl rfl) (pe_lst pa_nil))
    (pss_cons (ps_for PassesOwn.never rfl (pi_range2 (by rfl) T.z_range (by exact (pa_cons pe_int (pa_cons (pe_op op_add (pe_op op_fdiv (pe_op op_sub (pv 2) (pv 1)) (pe_cst (by rfl) T.c_LEAST_ROUNDS)) pe_int) pa_nil)))) (pg_name (i := 4) sc_spans_at.nd rfl (Or.inl rfl))
    (pss_one (ps_for PassesOwn.never rfl (pi_range2 (by rfl) T.z_range (by exact (pa_cons (pe_cst (by rfl) T.c_LEAST_ROUNDS) (pa_cons (pe_op op_add (pe_callB (call_min2 rfl) (by rfl) T.z_min (by decide +kernel) (by exact (pa_cons (pe_cst (by rfl) T.c_MOST_ROUNDS) (pa_cons (pe_op op_fdiv (pe_op op_sub (pv 2) (pv 1)) (pv 4)) pa_nil)))) pe_int) pa_nil)))) (pg_name (i := 5) sc_spans_at.nd rfl (Or.inl rfl))
    (pss_one (ps_expr (pe_bm PySem.F.plainAttrs_list PySem.F.slot_list_append PySem.F.type_list_append mt_append (pv 3) (by exact (pa_cons (pe_make T.mk_Span (ok_Span_init T) (hr.mono (by decide)) rfl T.Span.g T.Span_init.b .nil pass0 (by exact (pa_cons (pv 0) (pa_cons (pv 1) (pa_cons (pv 4) (pa_cons (pv 5) pa_nil)))))) pa_nil))))))))
    (pss_one (ps_ret (pv 3))))), ?_⟩)
  · obtain ⟨a, p, e, rfl, _⟩ := h
    rfl
  · obtain ⟨a, p, e, rfl, hpe, he, hQ⟩ := h
    refine ⟨by show 0 ≤ sizeLine; decide, fun L hL => ?_⟩
    refine ⟨_, rfl, _, rfl, _, _, rfl, rfl, _, _, rfl, rfl, ⟨by decide, by decide⟩, _, _, rfl, rfl, _, _, rfl, ⟨by omega, by omega, by omega, by omega⟩, ?_⟩
    have en : (((e : Int) - (p : Int)) / 2 + 1 - 1).toNat = (e - p) / 2 := by omega
    rw [en]
    refine for_range (lo := 1) (n := (e - p) / 2) (fun i σ H' => ∃ v w ys, σ = [some (.ref a), some (.int (p : Nat)), some (.int (e : Nat)), some (.ref L), v, w] ∧ Same H H' ∧ H' L = some (.lst ys) ∧ All2 (NewSp T.Span.C H H' a p) (spUp p e i) ys) ?_ ?_ ?_
    · exact ⟨_, _, [], rfl, Same.new hL, upd_same, All2.nil⟩
    · rintro i σ H' hi ⟨v, w, ys, rfl, s1, h1, hx⟩
      have hm : 0 < 1 + i := by omega
      have hdiv : ((e : Int) - (p : Int)) / (1 + (i : Int)) = (((e - p) / (1 + i) : Nat) : Int) := by
        rw [Int.natCast_ediv, Int.natCast_sub hpe, Int.natCast_add]
        rfl
      refine ⟨_, rfl, _, rfl, _, _, rfl, rfl, _, rfl, _, _, rfl, rfl, ⟨by omega, by omega⟩, 9, _, rfl, ?_⟩
      have emin : (if ((e : Int) - (p : Int)) / (1 + (i : Int)) < 9 then ((e : Int) - (p : Int)) / (1 + (i : Int)) else 9) = ((Nat.min 9 ((e - p) / (1 + i)) : Nat) : Int) := by
        rw [hdiv]
        show _ = ((min 9 ((e - p) / (1 + i)) : Nat) : Int)
        generalize (e - p) / (1 + i) = x
        split <;> omega
      rw [emin]
      have hle : Nat.min 9 ((e - p) / (1 + i)) ≤ 9 := Nat.min_le_left _ _
      have hup := spUp_le p e i
      have hle2 : (e - p) / 2 ≤ 7 := by omega
      have hr1 := spRow1_eq p e (1 + i)
      generalize Nat.min 9 ((e - p) / (1 + i)) = M at hle hr1 ⊢
      refine ⟨_, _, rfl, rfl, 2, _, rfl, ⟨by omega, by omega, by omega, by omega⟩, ?_⟩
      have en2 : (((M : Nat) : Int) + 1 - 2).toNat = M + 1 - 2 := by omega
      rw [en2]
      refine for_range (lo := 2) (n := M + 1 - 2) (fun j σ H' => ∃ w ys, σ = [some (.ref a), some (.int (p : Nat)), some (.int (e : Nat)), some (.ref L), some (.int (1 + (i : Nat))), w] ∧ Same H H' ∧ H' L = some (.lst ys) ∧ All2 (NewSp T.Span.C H H' a p) (spUp p e i ++ (List.range' 2 j).map fun k => (1 + i, k)) ys) ?_ ?_ ?_
      · exact ⟨_, ys, rfl, s1, h1, by simpa using hx⟩
      · rintro j σ H2 hj ⟨w, zs, rfl, s2, h2, hz⟩
        refine ⟨_, rfl, tyL h2, make_span (a := a) (p := p) (m := 1 + i) (k := 2 + j) (fun QQ hq => ⟨_, rfl, _, rfl, _, rfl, _, rfl, hq⟩) fun r dx H3 nr s3 hr => ?_⟩
        have h3 := s3 _ _ h2
        have hb : But L H3 (upd H3 L (.lst (zs ++ [.ref r]))) := But.wr
        have hzl : zs.length ≤ 8 * i + j := by
          rw [← hz.1, List.length_append, List.length_map, List.length_range']
          omega
        refine ⟨L, zs, _, rfl, rfl, h3, small1000 (by omega), _, _, rfl, Same.mut (s2.trans s3) hL, upd_same, ?_⟩
        rw [List.range'_1_concat, List.map_append, ← List.append_assoc]
        exact All2.snoc (hz.mono fun x v h => (h.same s3).butL hb h3) (NewSp.butL hb h3 ⟨r, dx, rfl, (Dom.of s2).none nr, hr⟩)
      · rintro σ H2 ⟨w, zs, rfl, s2, h2, hz⟩
        refine ⟨_, _, zs, rfl, s2, h2, ?_⟩
        rw [spUp_succ, hr1]
        exact hz
    · rintro σ H' ⟨v, w, ys, rfl, s1, h1, hx⟩
      refine ⟨_, rfl, ?_⟩
      rw [spUp_all] at hx
      exact hQ H' L ys s1 hL h1 hx
theorem NewSp.spn {C : Addr} {H H' H2 : Hp} {l : List Deed} {a : Addr} {ws : List V} {p e : Nat} {x : Nat × Nat} {r : Addr} (h : NewSp C H H' a p x (.ref r)) (s : Same H' H2) (R : Rec H2 l a ws) (hx : x ∈ spansOf p e) (hpe : p ≤ e) (he : e ≤ l.length) (hl : l.length ≤ 14) :
    Spn C H2 r l a ws p x.1 x.2 := by
  obtain ⟨h1, h2, _, h4⟩ := mem_spans hx
  obtain ⟨r', dx, e1, _, h3⟩ := h
  cases e1
  exact ⟨⟨dx, s _ _ h3⟩, R, h1, h2, Nat.le_trans (h4 hpe) he, hl⟩
/-- inner_spans -/
def spInnerSpans (C : Addr) : Sp := fun vs H Q _ => ∃ (q : Addr) (o : Nat) (l : List Deed) (a : Addr) (ws : List V) (p m k : Nat), vs = [.ref q, .int (o : Nat)] ∧ Spn C H q l a ws p m k ∧ o < m ∧
  ∀ H' L ys, Same H H' → H L = none → H' L = some (.lst ys) → All2 (NewSp C H H' a (p + o)) (innerL l p m k o) ys → Q (.ref L) H'
theorem sc_Span_inner_spans : FnScope ["self", "offset", "spans", "span"] ["self", "offset"] (defScope s_Span_inner_spans) := ⟨rfl, rfl, rfl, by decide +kernel, rfl, by decide +kernel, by decide +kernel⟩
theorem ok_Span_inner_spans {P : Program} {w : World} {K : PySem.W.Frag} {mg : Str → Option Value} {base : Heap} (T : Txt K mg) : FnOk P w K mg base CX0 4 T.Span_inner_spans.f T.Span_inner_spans.fd ["self", "offset"] (spInnerSpans T.Span.C) := by
  refine T.Span_inner_spans.F.ok sc_Span_inner_spans (fun vs H Q E h => ?_) (fun cdv A outer s H vs Q E hr h => ⟨_, (pss_cons (ps_set (i := 2) sc_Span_inner_spans.nd rfl (Or.inl rfl) (pe_call (ok_spans_at T) (hr.mono (by decide)) rfl T.spans_at.g T.spans_at.k T.spans_at.b .nil pass0 (by exact (pa_cons (pe_fldK (K := K) (pv 0) rfl) (pa_cons (pe_op op_add (pe_fldK (K := K) (pv 0) rfl) (pv 1)) (pa_cons (pe_op op_add (pe_fldK (K := K) (pv 0) rfl) (pe_fldK (K := K) (pv 0) rfl)) pa_nil))))))
    (pss_one (ps_ret (pe_lc (own := [("span", 3)]) rfl sc_Span_inner_spans.nd (pi_listK (K := K) (pv 2)) (blkOk_by (N := ["self", "offset", "spans", "span"]) (sc := defScope s_Span_inner_spans) (by decide +kernel)) (fun _ _ _ _ _ => (pg_name (i := 3) sc_Span_inner_spans.nd rfl (Or.inl rfl))) (fun _ _ _ _ _ => (pts_one (PW.pt (pw_and (pt_val (pe_meth0 (pv 3) T.Span.cl T.Span_is_plain_loop.m (ok_Span_is_plain_loop T) (hr.mono (by decide)) T.Span_is_plain_loop.b .nil pass0)) (pw_and1 (pt_val (pe_meth (pv 0) T.Span.cl T.Span_are_same.m (ok_Span_are_same T) (hr.mono (by decide)) T.Span_are_same.b .nil pass0 (by exact (pa_cons (pv 1) (pa_cons (pe_meth0 (pv 3) T.Span.cl T.Span_long.m (ok_Span_long T) (hr.mono (by decide)) T.Span_long.b .nil pass0) pa_nil)))))))))) (fun _ _ _ _ _ => (pv 3)))))), ?_⟩)
  · obtain ⟨q, o, l, a, ws, p, m, k, rfl, _⟩ := h
    rfl
  · obtain ⟨q, o, l, a, ws, p, m, k, rfl, S, ho, hQ⟩ := h
    obtain ⟨dx, hS⟩ := S.at_
    have hfit : p + m ≤ l.length := by
      have := S.lt ho (i := 0) (by have := S.k2; omega)
      have h1 : m * 1 ≤ m * k := Nat.mul_le_mul_left m (by have := S.k2; omega)
      have := S.fit
      omega
    have hfew := S.few
    refine ⟨_, rfl, q, _, dx, _, _, rfl, hS, T.Span.cl, T.n_Span_recording, spF_recording, _, rfl, q, _, dx, _, _, rfl, hS, T.Span.cl, T.n_Span_place, spF_place, _, rfl, _, _, rfl, rfl, _, rfl, q, _, dx, _, _, rfl, hS, T.Span.cl, T.n_Span_place, spF_place, _, rfl, q, _, dx, _, _, rfl, hS, T.Span.cl, T.n_Span_length, spF_length, _, _, rfl, rfl, a, p + o, p + m, rfl, by omega, by omega, fun H1 L ys s1 nL hL hy => ?_⟩
    refine ⟨_, rfl, L, rfl, ⟨ys, SqL.of hL⟩, fun D hD => ?_⟩
    have hlen : (spansOf (p + o) (p + m)).length ≤ 56 := by
      rw [← spUp_all]
      have := spUp_le (p + o) (p + m) ((p + m - (p + o)) / 2)
      have := S.m7
      omega
    refine lc_list (K := K) (a := L) (xs := ys) (fun i H' => Same H1 H' ∧ ∃ zs, H' D = some (.lst zs) ∧ All2 (NewSp T.Span.C H H' a (p + o)) (((spansOf (p + o) (p + m)).take i).filter fun x => plainL l (p + o) x.1 x.2 && areSame l p m k o (x.1 * x.2)) zs) ⟨Same.new hD, [], upd_same, by rw [List.take_zero]; exact All2.nil⟩ (fun i H' _ h' => SqL.of (h'.1 _ _ hL)) ?_ ?_
    · rintro i x H' hi ⟨s2, zs, h2, hz⟩
      obtain ⟨y, hy1, hy2⟩ := hy.getV hi
      have hmem := List.mem_of_getElem? hy1
      obtain ⟨r, dr, rfl, nr, hr⟩ := hy2
      have s3 := s1.trans s2
      have Sr : Spn T.Span.C H' r l a ws (p + o) y.1 y.2 := NewSp.spn (H := H) (H' := H1) ⟨r, dr, rfl, nr, hr⟩ s2 (S.rc.same s3) hmem (by omega) hfit hfew
      obtain ⟨_, _, _, hfy⟩ := mem_spans hmem
      have hfy := hfy (by omega)
      have et : (spansOf (p + o) (p + m)).take (i + 1) = (spansOf (p + o) (p + m)).take i ++ [y] := take_one hy1
      have skip : ∀ H4, Same H' H4 → (plainL l (p + o) y.1 y.2 && areSame l p m k o (y.1 * y.2)) = false → Same H1 H4 ∧ ∃ zs, H4 D = some (.lst zs) ∧ All2 (NewSp T.Span.C H H4 a (p + o)) (((spansOf (p + o) (p + m)).take (i + 1)).filter fun x => plainL l (p + o) x.1 x.2 && areSame l p m k o (x.1 * x.2)) zs := by
        intro H4 s4 hc
        refine ⟨s2.trans s4, zs, s4 _ _ h2, ?_⟩
        rw [et, List.filter_append]
        have : [y].filter (fun x => plainL l (p + o) x.1 x.2 && areSame l p m k o (x.1 * x.2)) = [] := by
          rw [List.filter_cons, hc]
          rfl
        rw [this, List.append_nil]
        exact hz.mono fun _ _ h => h.same s4
      refine ⟨rfl, _, rfl, r, dr, _, rfl, s2 _ _ hr, spF_m_is_plain_loop, r, l, a, ws, p + o, y.1, y.2, rfl, Sr, fun H3 s4 => ?_⟩
      cases hc1 : plainL l (p + o) y.1 y.2 with
      | false =>
        refine ⟨_, rfl, iteF (iteF ?_)⟩
        exact skip H3 s4 (by rw [hc1]; rfl)
      | true =>
        have hS3 := s4 _ _ (s3 _ _ hS)
        refine ⟨_, rfl, iteT ⟨_, rfl, q, dx, _, rfl, hS3, spF_m_are_same, _, rfl, _, rfl, r, dr, _, rfl, s4 _ _ (s2 _ _ hr), spF_m_long, r, l, a, ws, p + o, y.1, y.2, rfl, Sr.same s4, q, o, y.1 * y.2, l, a, ws, p, m, k, rfl, S.same (s3.trans s4), by omega, fun H4 s5 => ?_⟩⟩
        have s6 := s4.trans s5
        cases hc2 : areSame l p m k o (y.1 * y.2) with
        | false =>
          refine ⟨_, rfl, iteF ?_⟩
          exact skip H4 s6 (by rw [hc1, hc2]; rfl)
        | true =>
          have h4 := s6 _ _ h2
          have hb : But D H4 (upd H4 D (.lst (zs ++ [.ref r]))) := But.wr
          refine ⟨_, rfl, iteT ⟨_, rfl, zs, h4, ?_, Same.mut (s2.trans s6) hD, _, upd_same, ?_⟩⟩
          · rw [← hz.1]
            have := List.length_filter_le (fun x : Nat × Nat => plainL l (p + o) x.1 x.2 && areSame l p m k o (x.1 * x.2)) ((spansOf (p + o) (p + m)).take i)
            rw [List.length_take] at this
            exact small1000 (by omega)
          · rw [et, List.filter_append]
            have : [y].filter (fun x => plainL l (p + o) x.1 x.2 && areSame l p m k o (x.1 * x.2)) = [y] := by
              rw [List.filter_cons, hc1, hc2]
              rfl
            rw [this]
            exact All2.snoc (hz.mono fun _ _ h => (h.same s6).butL hb h4) (NewSp.butL hb h4 ⟨r, dr, rfl, nr, s6 _ _ (s2 _ _ hr)⟩)
    · rintro H2 ⟨s2, zs, h2, hz⟩
      rw [← hy.1, List.take_length] at hz
      exact hQ H2 D zs (s1.trans s2) ((Dom.of s1).none hD) h2 hz
end My
namespace My
open PySem PySem.Spec PyProof.Rows L2
open VamacBase (Deed Prog)
/-- deed_piece -/
def spDeedPiece (C : Addr) : Sp := fun vs H Q _ => ∃ (q : Addr) (o : Nat) (l : List Deed) (a : Addr) (ws : List V) (p m k : Nat) (s : Int) (dv : V), vs = [.ref q, .int (o : Nat)] ∧ Spn C H q l a ws p m k ∧ o < m ∧ stepAt l p m k o = some s ∧ ws[p + o]? = some dv ∧
  ∀ H' t, Same H H' → H t = none → H' t = some (.tup [.int 0, dv, .int s]) → Q (.ref t) H'
theorem sc_Span_deed_piece : FnScope ["self", "offset"] ["self", "offset"] (defScope s_Span_deed_piece) := ⟨rfl, rfl, rfl, by decide +kernel, rfl, by decide +kernel, by decide +kernel⟩
theorem ok_Span_deed_piece {P : Program} {w : World} {K : PySem.W.Frag} {mg : Str → Option Value} {base : Heap} (T : Txt K mg) : FnOk P w K mg base CX0 3 T.Span_deed_piece.f T.Span_deed_piece.fd ["self", "offset"] (spDeedPiece T.Span.C) := by
  refine T.Span_deed_piece.F.ok sc_Span_deed_piece (fun vs H Q E h => ?_) (fun cdv A outer s H vs Q E hr h => ⟨_, (pss_one (ps_ret (pe_tup (by exact (pa_cons (pe_cst (by rfl) T.c_DEED) (pa_cons (pe_ix (ix_listK (K := K)) (pe_fldK (K := K) (pv 0) rfl) (pe_op op_add (pe_fldK (K := K) (pv 0) rfl) (pv 1)) (fun _ _ => rfl)) (pa_cons (pe_meth (pv 0) T.Span.cl T.Span_step_at.m (ok_Span_step_at T) (hr.mono (by decide)) T.Span_step_at.b .nil pass0 (by exact (pa_cons (pv 1) pa_nil))) pa_nil))))))), ?_⟩)
  · obtain ⟨q, o, l, a, ws, p, m, k, s, dv, rfl, _⟩ := h
    rfl
  · obtain ⟨q, o, l, a, ws, p, m, k, s, dv, rfl, S, ho, hs, hdv, hQ⟩ := h
    obtain ⟨dx, hS⟩ := S.at_
    have hat : atI ws ((p : Nat) + (o : Nat) : Int) = some dv := by
      rw [← Int.natCast_add]
      exact atI_nat hdv
    refine r_ret ⟨_, rfl, q, _, dx, _, _, rfl, hS, T.Span.cl, T.n_Span_recording, spF_recording, _, rfl, q, _, dx, _, _, rfl, hS, T.Span.cl, T.n_Span_place, spF_place, _, rfl, _, _, rfl, rfl, a, ws, _, dv, rfl, rfl, SqL.of S.rc.at_, hat, _, rfl, q, dx, _, rfl, hS, spF_m_step_at, _, rfl, q, o, l, a, ws, p, m, k, rfl, S, ho, fun H1 s1 => ⟨by show 3 ≤ sizeLine; decide, fun t ht => ?_⟩⟩
    exact hQ _ t (s1.trans (Same.new ht)) ((Dom.of s1).none ht) (by rw [upd_same, hs]; rfl)
/-- what holds of a piece in each heap that has the recording and what is new -/
def PcE (l : List Deed) (a : Addr) (ws : List V) (N : Hp) (c : Pc) (v : V) : Prop := ∀ G, Rec G l a ws → Same N G → PcAt G c v
theorem PcE.mono {l : List Deed} {a : Addr} {ws : List V} {N N' : Hp} {c : Pc} {v : V} (h : PcE l a ws N c v) (e : Same N N') : PcE l a ws N' c v := fun G R s => h G R (e.trans s)
def RowsE (l : List Deed) (a : Addr) (ws : List V) (N : Hp) (p : Prog) (vs : List V) : Prop := ∀ G, Rec G l a ws → Same N G → RowsAt G p vs
theorem RowsE.mono {l : List Deed} {a : Addr} {ws : List V} {N N' : Hp} {p : Prog} {vs : List V} (h : RowsE l a ws N p vs) (e : Same N N') : RowsE l a ws N' p vs := fun G R s => h G R (e.trans s)
theorem rows_cons {G : Hp} {c : Pc} {p : Prog} {v : V} {vs : List V} (h : PcAt G c v) (g : RowsAt G p vs) : RowsAt G (c.cons p) (v :: vs) := by
  have := rows_of (c :: pcsOf p) (v :: vs) (All2.cons h (rows_to p vs g))
  have e : ofPcs (c :: pcsOf p) = c.cons p := by
    show c.cons (ofPcs (pcsOf p)) = _
    rw [of_pcs]
  rw [e] at this
  exact this
theorem chain_pcs (l : List Deed) (p m k : Nat) : ∀ n o, chain l p m k n o = ofPcs ((List.range n).map fun i => Pc.deed (dAt l (p + (o + i))) ((stepAt l p m k (o + i)).getD 0))
  | 0, _ => rfl
  | n + 1, o => by
    rw [List.range_succ_eq_map, List.map_cons, List.map_map]
    show Prog.deed _ _ (chain l p m k n (o + 1)) = Prog.deed _ _ (ofPcs _)
    rw [chain_pcs l p m k n (o + 1)]
    have e : (fun i => Pc.deed (dAt l (p + (o + 1 + i))) ((stepAt l p m k (o + 1 + i)).getD 0)) = ((fun i => Pc.deed (dAt l (p + (o + i))) ((stepAt l p m k (o + i)).getD 0)) ∘ Nat.succ) := by
      funext i
      show _ = Pc.deed (dAt l (p + (o + (i + 1)))) ((stepAt l p m k (o + (i + 1))).getD 0)
      rw [show o + 1 + i = o + (i + 1) by omega]
    rw [e]
    rfl
theorem Dom.newL {H H' : Hp} {D : Addr} {o o' : HO} (e : Same H H') (h : H' D = some o') : Dom (upd H D o) H' := fun b u hb => by
  by_cases hD : b = D
  · rw [hD]
    exact ⟨_, h⟩
  · rw [upd_ne hD] at hb
    exact ⟨u, e _ _ hb⟩
/-- plain_piece -/
def spPlainPiece (C : Addr) : Sp := fun vs H Q _ => ∃ (q : Addr) (l : List Deed) (a : Addr) (ws : List V) (p m k : Nat), vs = [.ref q] ∧ Spn C H q l a ws p m k ∧ plainL l p m k = true ∧
  ∀ H' v, Same H H' → PcE l a ws (New H H') (.times k (plainBody l p m k)) v → Q v H'
theorem sc_Span_plain_piece : FnScope ["self", "offset"] ["self"] (defScope s_Span_plain_piece) := ⟨rfl, rfl, rfl, by decide +kernel, rfl, by decide +kernel, by decide +kernel⟩
theorem ok_Span_plain_piece {P : Program} {w : World} {K : PySem.W.Frag} {mg : Str → Option Value} {base : Heap} (T : Txt K mg) : FnOk P w K mg base CX0 4 T.Span_plain_piece.f T.Span_plain_piece.fd ["self"] (spPlainPiece T.Span.C) := by
  refine T.Span_plain_piece.F.ok sc_Span_plain_piece (fun vs H Q E h => ?_) (fun cdv A outer s H vs Q E hr h => ⟨_, (pss_one (ps_ret (pe_tup (by exact (pa_cons (pe_cst (by rfl) T.c_LOOP) (pa_cons (pe_fldK (K := K) (pv 0) rfl) (pa_cons (pe_lc (own := [("offset", 1)]) rfl sc_Span_plain_piece.nd (pi_range1 (by rfl) T.z_range (by exact (pa_cons (pe_fldK (K := K) (pv 0) rfl) pa_nil))) (blkOk_by (N := ["self", "offset"]) (sc := defScope s_Span_plain_piece) (by decide +kernel)) (fun _ _ _ _ _ => (pg_name (i := 1) sc_Span_plain_piece.nd rfl (Or.inl rfl))) (fun _ _ _ _ _ => pts_nil) (fun _ _ _ _ _ => (pe_meth (pv 0) T.Span.cl T.Span_deed_piece.m (ok_Span_deed_piece T) (hr.mono (by decide)) T.Span_deed_piece.b .nil pass0 (by exact (pa_cons (pv 1) pa_nil))))) pa_nil))))))), ?_⟩)
  · obtain ⟨q, l, a, ws, p, m, k, rfl, _⟩ := h
    rfl
  · obtain ⟨q, l, a, ws, p, m, k, rfl, S, hpl, hQ⟩ := h
    obtain ⟨dx, hS⟩ := S.at_
    have hm := S.m7
    refine r_ret ⟨_, rfl, q, _, dx, _, _, rfl, hS, T.Span.cl, T.n_Span_rounds, spF_rounds, _, rfl, q, _, dx, _, _, rfl, hS, T.Span.cl, T.n_Span_length, spF_length, m, rfl, by omega, by omega, fun D hD => ?_⟩
    refine lc_range (lo := 0) (n := m) (fun i H' => Same H H' ∧ ∃ zs, H' D = some (.lst zs) ∧ All2 (PcE l a ws (New (upd H D (.lst [])) H')) ((List.range i).map fun i => Pc.deed (dAt l (p + (0 + i))) ((stepAt l p m k (0 + i)).getD 0)) zs) ⟨Same.new hD, [], upd_same, All2.nil⟩ ?_ ?_
    · rintro i H' hi ⟨s1, zs, h1, hz⟩
      have hS1 := s1 _ _ hS
      obtain ⟨dv, e1, _⟩ := S.rc.deed (S.lt0 hi)
      obtain ⟨st, hst⟩ : ∃ st, stepAt l p m k i = some st := by
        have := List.all_eq_true.mp hpl i (List.mem_range.mpr hi)
        exact Option.isSome_iff_exists.mp this
      refine ⟨rfl, _, rfl, q, dx, _, rfl, hS1, spF_m_deed_piece, _, rfl, q, i, l, a, ws, p, m, k, st, dv, (by rw [Int.zero_add]; rfl), S.same s1, hi, hst, e1, fun H2 t s2 nt ht => ?_⟩
      have h2 := s2 _ _ h1
      have hb : But D H2 (upd H2 D (.lst (zs ++ [.ref t]))) := But.wr
      have hND : Same (New (upd H D (.lst [])) H2) (New (upd H D (.lst [])) (upd H2 D (.lst (zs ++ [.ref t])))) := New.but hb ⟨_, upd_same⟩
      have hlen : zs.length = i := by rw [← hz.1, List.length_map, List.length_range]
      have nt0 := (Dom.newL (o := .lst []) s1 h1).none nt
      refine ⟨zs, h2, small1000 (by omega), Same.mut (s1.trans s2) hD, _, upd_same, ?_⟩
      rw [List.range_succ, List.map_append]
      refine All2.snoc (hz.mono fun c v h => h.mono ((New.same s2).trans hND)) fun G R N => ?_
      have hG := N _ _ (hND _ _ (New.of nt0 ht))
      refine ⟨t, dv, rfl, ?_, ?_⟩
      · rw [hG, Nat.zero_add, hst]
        rfl
      · obtain ⟨dv', e2, e3⟩ := R.deed (S.lt0 hi)
        rw [e1] at e2
        cases e2
        rw [Nat.zero_add]
        exact e3
    · rintro H1 ⟨s1, zs, h1, hz⟩
      refine ⟨by show 3 ≤ sizeLine; decide, fun t ht => ?_⟩
      refine hQ _ _ (s1.trans (Same.new ht)) fun G R N => ?_
      have hGt : G t = some (.tup [.int 1, .int (k : Nat), .ref D]) := N _ _ (New.of ((Dom.of s1).none ht) upd_same)
      have hGD : G D = some (.lst zs) := N _ _ (New.of hD (Same.new ht _ _ h1))
      have hN : Same (New (upd H D (.lst [])) H1) G := ((New.more (Dom.of (Same.new hD))).trans (New.same (Same.new ht))).trans N
      refine ⟨t, .ref D, rfl, hGt, D, zs, rfl, hGD, ?_⟩
      show RowsAt G (chain l p m k m 0) zs
      rw [chain_pcs]
      exact rows_of _ _ (hz.mono fun c v h => h G R hN)
/-- with_piece -/
def spWithPiece : Sp := fun vs H Q _ => ∃ (n : Int) (pv rest : V) (R : VK), vs = [.int n, pv, rest] ∧ (∀ v H', R v H' → Q v H') ∧ ((rest = .non ∧ R .non H) ∨ ∃ (t : Addr) (s : Int) (r : Addr) (ys : List V), rest = .ref t ∧ H t = some (.tup [.int s, .ref r]) ∧ H r = some (.lst ys) ∧ ys.length ≤ 1000 ∧
  ∀ H' t' r', Same H H' → H t' = none → H r' = none → H' t' = some (.tup [.int (n + s), .ref r']) → H' r' = some (.lst (pv :: ys)) → R (.ref t') H')
theorem sc_with_piece : FnScope ["many", "piece", "rest"] ["many", "piece", "rest"] (defScope s_with_piece) := ⟨rfl, rfl, rfl, by decide +kernel, rfl, by decide +kernel, by decide +kernel⟩
theorem ok_with_piece {P : Program} {w : World} {K : PySem.W.Frag} {mg : Str → Option Value} {base : Heap} (T : Txt K mg) : FnOk P w K mg base CX0 1 T.with_piece.f T.with_piece.fd ["many", "piece", "rest"] (spWithPiece) := by
  refine T.with_piece.F.ok sc_with_piece (fun vs H Q E h => ?_) (fun cdv A outer s H vs Q E hr h => ⟨_, (pss_one (ps_ret (pe_ifExp (pt_cmp (pc_isN (pv 2))) pe_non (pe_tup (by exact (pa_cons (pe_op op_add (pv 0) (pe_ix (ix_tupK (K := K)) (pv 2) pe_int (fun _ _ => rfl))) (pa_cons (pe_op op_cat (pe_lst (by exact (pa_cons (pv 1) pa_nil))) (pe_ix (ix_tupK (K := K)) (pv 2) pe_int (fun _ _ => rfl))) pa_nil))))))), ?_⟩)
  · obtain ⟨n, pv, rest, R, rfl, _⟩ := h
    rfl
  · obtain ⟨n, pv, rest, R, rfl, hR, h⟩ := h
    refine r_ret ⟨_, rfl, _, rfl, ?_⟩
    rcases h with ⟨rfl, hQ⟩ | ⟨t, s, r, ys, rfl, ht, hr, hl, hQ⟩
    · exact iteT (hR _ _ hQ)
    · refine iteF ⟨_, rfl, _, rfl, t, _, 0, _, rfl, rfl, SqT.of (ht), at0, _, _, rfl, rfl, _, rfl, by show 1 ≤ sizeLine; decide, fun x hx => ?_⟩
      have s1 := Same.new (o := .lst [pv]) hx
      refine ⟨_, rfl, t, _, 1, _, rfl, rfl, SqT.of (s1 _ _ ht), at1, x, r, _, ys, rfl, rfl, upd_same, s1 _ _ hr, Nat.le_of_lt (small6 (by simp; omega)), fun y hy => ⟨by show 2 ≤ sizeLine; decide, fun z hz => ?_⟩⟩
      have s2 := Same.new (o := .lst ([pv] ++ ys)) hy
      have s3 := Same.new (o := .tup [.int (n + s), .ref y]) hz
      exact hR _ _ (hQ _ z y (s1.trans (s2.trans s3)) ((Dom.of (s1.trans s2)).none hz) ((Dom.of s1).none hy) upd_same (s3 _ _ upd_same))
/-- lesser -/
def SzAt (H : Hp) : Option Int → V → Prop
  | none, v => v = .non
  | some s, v => ∃ t rv, v = .ref t ∧ H t = some (.tup [.int s, rv])
def lessS : Option Int → Option Int → Bool
  | none, _ => true
  | some _, none => false
  | some a, some b => decide (b < a)
def spLesser : Sp := fun vs H Q _ => ∃ (v w : V) (x y : Option Int), vs = [v, w] ∧ SzAt H x v ∧ SzAt H y w ∧ Q (if lessS x y = true then w else v) H
theorem sc_lesser : FnScope ["one", "other"] ["one", "other"] (defScope s_lesser) := ⟨rfl, rfl, rfl, by decide +kernel, rfl, by decide +kernel, by decide +kernel⟩
theorem ok_lesser {P : Program} {w : World} {K : PySem.W.Frag} {mg : Str → Option Value} {base : Heap} (T : Txt K mg) : FnOk P w K mg base CX0 1 T.lesser.f T.lesser.fd ["one", "other"] (spLesser) := by
  refine T.lesser.F.ok sc_lesser (fun vs H Q E h => ?_) (fun cdv A outer s H vs Q E hr h => ⟨_, (pss_cons (ps_if (PW.pt (pw_or (pt_cmp (pc_isN (pv 0))) (pw_or1 (PW.pt (pw_and (pt_cmp (pc_notN (pv 1))) (pw_and1 (pt_cmpR op_lt (pe_ix (ix_tupK (K := K)) (pv 1) pe_int (fun _ _ => rfl)) (pe_ix (ix_tupK (K := K)) (pv 0) pe_int (fun _ _ => rfl)) (nomark _))))))))
    (pss_one (ps_ret (pv 1)))
    pss_nil)
    (pss_one (ps_ret (pv 0)))), ?_⟩)
  · obtain ⟨v, w, x, y, rfl, _⟩ := h
    rfl
  · obtain ⟨v, w, x, y, rfl, hx, hy, hQ⟩ := h
    refine ⟨_, rfl, _, rfl, ?_⟩
    cases x with
    | none =>
      cases hx
      exact iteT (iteT ⟨_, rfl, hQ⟩)
    | some x =>
      obtain ⟨t, rv, rfl, ht⟩ := hx
      refine iteF ⟨_, rfl, _, rfl, ?_⟩
      cases y with
      | none =>
        cases hy
        exact iteF (iteF ⟨_, rfl, hQ⟩)
      | some y =>
        obtain ⟨t2, rv2, rfl, ht2⟩ := hy
        refine iteT ⟨_, rfl, t2, _, 0, _, rfl, rfl, SqT.of (ht2), at0, _, rfl, t, _, 0, _, rfl, rfl, SqT.of (ht), at0, _, _, rfl, rfl, _, rfl, ?_⟩
        have hQ : Q (if decide (y < x) = true then V.ref t2 else V.ref t) H := hQ
        by_cases hlt : y < x
        · rw [decide_eq_true hlt]
          rw [if_pos (decide_eq_true hlt)] at hQ
          exact iteT ⟨_, rfl, hQ⟩
        · rw [decide_eq_false hlt]
          rw [if_neg (by rw [decide_eq_false hlt]; decide)] at hQ
          exact iteF ⟨_, rfl, hQ⟩
end My
namespace My
open PySem PySem.Spec PyProof.Rows L2
open VamacBase (Deed Prog)
open Vamacb (Folded)
/-- an if, what holds behind it -/
theorem r_ifI {tt : TT} {t1 t2 u : TS} {D : Ends} {σ : L2.St} {H : Hp} (I : L2.St → Hp → Prop)
    (h : ∀ nx : L2.St → Hp → Prop, (∀ σ' H', I σ' H' → nx σ' H') → tt σ H fun b H1 => if b = true then t1 { D with nx := nx } σ H1 else t2 { D with nx := nx } σ H1)
    (k : ∀ σ' H', I σ' H' → u D σ' H') : tSeq (tIfS tt t1 t2) u D σ H := h (u D) k
/-! ### a list that is filled from its end -/
section
variable {A : Type} {o : Nat} {d x y : A} {r : List A}
theorem tl_at : (List.replicate o d ++ x :: r)[o]? = some x := by
  rw [List.getElem?_append_right (by rw [List.length_replicate]; omega), List.length_replicate, Nat.sub_self]
  rfl
theorem tl_past {j : Nat} : (List.replicate o d ++ x :: r)[o + (j + 1)]? = r[j]? := by
  rw [List.getElem?_append_right (by rw [List.length_replicate]; omega), List.length_replicate, show o + (j + 1) - o = j + 1 by omega]
  rfl
theorem tl_set : (List.replicate o d ++ x :: r).set o y = List.replicate o d ++ y :: r := by
  rw [List.set_append_right _ _ (by rw [List.length_replicate]; omega), List.length_replicate, Nat.sub_self]
  rfl
theorem ix_nat {n j : Nat} (hj : j < n) : ixN n (j : Int) = some j := by
  unfold ixN
  rw [if_pos (by omega), if_pos (by omega), Int.toNat_natCast]
theorem tl_ix : ixN (List.replicate o d ++ x :: r).length (o : Int) = some o := ix_nat (by rw [List.length_append, List.length_replicate, List.length_cons]; omega)
theorem tl_open {n : Nat} (h : n = o + 1) : List.replicate n d ++ r = List.replicate o d ++ d :: r := by
  rw [h, List.replicate_succ', List.append_assoc]
  rfl
theorem rep_flat : ∀ n : Nat, (List.replicate n [d]).flatten = List.replicate n d
  | 0 => rfl
  | n + 1 => by rw [List.replicate_succ, List.flatten_cons, rep_flat n, List.replicate_succ]; rfl
end
theorem down_rg (m : Nat) (hm : m ≤ 100) : RgC ((m : Int) - 1) (-1) (-1) m := by
  have := RgC.neg (i := (m : Int) - 1) (j := -1) (by omega) (by omega) (by omega) (by omega)
  rw [show ((m : Int) - 1 - (-1)).toNat = m by omega] at this
  exact this
theorem atT_get {T : List Folded} {i : Nat} (h : i < T.length) : T[i]? = some (atT T i) := by
  unfold atT
  rw [List.getElem?_eq_getElem h]
  rfl
theorem goInner_snoc (l : List Deed) (p : Nat) (T : List Folded) (o : Nat) (a : Folded) (L : List (Nat × Nat)) (x : Nat × Nat) :
    goInner l p T o a (L ++ [x]) = Vamacb.orElse (goInner l p T o a L) (Vamacb.withLoop x.2 ⟨1, some (plainBody l (p + o) x.1 x.2)⟩ (atT T (x.1 * x.2 - 1))) := by
  unfold goInner
  rw [List.foldl_append]
  rfl
theorem goOuter_snoc (l : List Deed) (p : Nat) (T : List Folded) (a : Folded) (L : List (Nat × Nat)) (x : Nat × Nat) :
    goOuter l p T a (L ++ [x]) = Vamacb.orElse (goOuter l p T a L) (Vamacb.withLoop x.2 (bodyF l p x.1 x.2) (atT T (x.1 * x.2 - 1))) := by
  unfold goOuter
  rw [List.foldl_append]
  rfl
def cntV (f : Folded) : V := .int (f.count : Nat)
/-- many_bodies -/
def spManyBodies (C : Addr) : Sp := fun vs H Q _ => ∃ (q : Addr) (l : List Deed) (a : Addr) (ws : List V) (p m k : Nat), vs = [.ref q] ∧ Spn C H q l a ws p m k ∧
  ∀ H', Same H H' → Q (.int ((bodyF l p m k).count : Nat)) H'
theorem sc_Span_many_bodies : FnScope ["self", "ways", "offset", "span"] ["self"] (defScope s_Span_many_bodies) := ⟨rfl, rfl, rfl, by decide +kernel, rfl, by decide +kernel, by decide +kernel⟩
theorem ok_Span_many_bodies {P : Program} {w : World} {K : PySem.W.Frag} {mg : Str → Option Value} {base : Heap} (T : Txt K mg) : FnOk P w K mg base CX0 5 T.Span_many_bodies.f T.Span_many_bodies.fd ["self"] (spManyBodies T.Span.C) := by
  refine T.Span_many_bodies.F.ok sc_Span_many_bodies (fun vs H Q E h => ?_) (fun cdv A outer s H vs Q E hr h => ⟨_, (pss_cons (ps_set (i := 1) sc_Span_many_bodies.nd rfl (Or.inl rfl) (pe_op op_cat (pe_op op_rep (pe_lst (by exact (pa_cons pe_int pa_nil))) (pe_fldK (K := K) (pv 0) rfl)) (pe_lst (by exact (pa_cons pe_int pa_nil)))))
    (pss_cons (ps_for PassesOwn.never rfl (pi_range3 (by rfl) T.z_range (by exact (pa_cons (pe_op op_sub (pe_fldK (K := K) (pv 0) rfl) pe_int) (pa_cons (pe_un un_neg pe_int) (pa_cons (pe_un un_neg pe_int) pa_nil))))) (pg_name (i := 2) sc_Span_many_bodies.nd rfl (Or.inl rfl))
    (pss_cons (ps_if (pt_cmp (pc_notN (pe_meth (pv 0) T.Span.cl T.Span_step_at.m (ok_Span_step_at T) (hr.mono (by decide)) T.Span_step_at.b .nil pass0 (by exact (pa_cons (pv 2) pa_nil)))))
    (pss_one (ps_asg (pe_ix (ix_listK (K := K)) (pv 1) (pe_op op_add (pv 2) pe_int) (fun _ _ => rfl)) (pg_sub (pv 1) (pv 2) set_list)))
    pss_nil)
    (pss_one (ps_for PassesOwn.never rfl (pi_listK (K := K) (pe_meth (pv 0) T.Span.cl T.Span_inner_spans.m (ok_Span_inner_spans T) (hr.mono (by decide)) T.Span_inner_spans.b .nil pass0 (by exact (pa_cons (pv 2) pa_nil)))) (pg_name (i := 3) sc_Span_many_bodies.nd rfl (Or.inl rfl))
    (pss_one (ps_asg (pe_op op_add (pe_ix (ix_listK (K := K)) (pv 1) (pv 2) (fun _ _ => rfl)) (pe_ix (ix_listK (K := K)) (pv 1) (pe_op op_add (pv 2) (pe_meth0 (pv 3) T.Span.cl T.Span_long.m (ok_Span_long T) (hr.mono (by decide)) T.Span_long.b .nil pass0)) (fun _ _ => rfl))) (pg_sub (pv 1) (pv 2) set_list)))))))
    (pss_one (ps_ret (pe_ix (ix_listK (K := K)) (pv 1) pe_int (fun _ _ => rfl)))))), ?_⟩)
  · obtain ⟨q, l, a, ws, p, m, k, rfl, _⟩ := h
    rfl
  · obtain ⟨q, l, a, ws, p, m, k, rfl, S, hQ⟩ := h
    obtain ⟨dx, hS⟩ := S.at_
    have hm := S.m7
    have hm1 := S.m1
    have hfit : p + m ≤ l.length := by
      have := S.lt (o := m - 1) (by omega) (i := 0) (by have := S.k2; omega)
      omega
    refine ⟨by show 1 ≤ sizeLine; decide, fun x hx => ?_⟩
    have z1 := Same.new (o := .lst [V.int 0]) hx
    have hS1 := z1 _ _ hS
    refine ⟨_, rfl, q, _, dx, _, _, rfl, hS1, T.Span.cl, T.n_Span_length, spF_length, x, m, [V.int 0], rfl, rfl, upd_same, by omega, by omega, ?_, fun y hy => ⟨by show 1 ≤ sizeLine; decide, fun z hz => ?_⟩⟩
    · rw [Int.toNat_natCast]
      exact Nat.le_of_lt (small1000 (by show 1 * m ≤ _; omega))
    have z2 := Same.new (o := .lst ((List.replicate ((m : Nat) : Int).toNat [V.int 0]).flatten)) hy
    have z3 := Same.new (o := .lst [V.int 1]) hz
    refine ⟨y, z, _, _, rfl, rfl, z3 _ _ upd_same, upd_same, ?_, fun W hW => ?_⟩
    · rw [Int.toNat_natCast, rep_flat, List.length_replicate]
      exact Nat.le_of_lt (small1000 (by show m + 1 ≤ _; omega))
    rw [Int.toNat_natCast, rep_flat]
    have s0 : Same H (upd (upd (upd (upd H x (.lst [V.int 0])) y (.lst (List.replicate m (V.int 0)))) z (.lst [V.int 1])) W (.lst (List.replicate m (V.int 0) ++ [V.int 1]))) := by
      have z2 := z2
      have z3 := z3
      rw [Int.toNat_natCast, rep_flat] at z2 z3
      have hW := hW
      rw [Int.toNat_natCast, rep_flat] at hW
      exact z1.trans (z2.trans (z3.trans (Same.new hW)))
    have hW0 : H W = none := by
      rw [Int.toNat_natCast, rep_flat] at hW z2 z3
      exact (Dom.of (z1.trans (z2.trans z3))).none hW
    have hWv : (upd (upd (upd (upd H x (.lst [V.int 0])) y (.lst (List.replicate m (V.int 0)))) z (.lst [V.int 1])) W (.lst (List.replicate m (V.int 0) ++ [V.int 1]))) W = some (.lst (List.replicate m (V.int 0) ++ [V.int 1])) := upd_same
    generalize upd (upd (upd (upd H x (.lst [V.int 0])) y (.lst (List.replicate m (V.int 0)))) z (.lst [V.int 1])) W (.lst (List.replicate m (V.int 0) ++ [V.int 1])) = H0 at s0 hWv ⊢
    have hS0 := s0 _ _ hS
    refine ⟨_, rfl, q, _, dx, _, _, rfl, hS0, T.Span.cl, T.n_Span_length, spF_length, _, _, rfl, rfl, _, rfl, _, rfl, _, _, _, m, rfl, down_rg m (by omega), ?_⟩
    refine for_rangeC (lo := (m : Int) - 1) (c := -1) (n := m) (fun t σ H' => ∃ v w, σ = [some (.ref q), some (.ref W), v, w] ∧ Same H H' ∧ H' W = some (.lst (List.replicate (m - t) (V.int 0) ++ (tab1 l p m k t).map cntV))) ?_ ?_ ?_
    · exact ⟨_, _, rfl, s0, hWv⟩
    · rintro t σ H' ht ⟨v, w, rfl, s1, h1⟩
      have eo : ((m : Int) - 1 + (t : Nat) * (-1)) = ((m - (t + 1) : Nat) : Int) := by omega
      rw [eo]
      have hTl : (tab1 l p m k t).length = t + 1 := tabG_length _ _ _
      have hnext : tab1 l p m k (t + 1) = g1 l p m k (m - (t + 1)) (tab1 l p m k t) :: tab1 l p m k t := rfl
      rw [tl_open (show m - t = m - (t + 1) + 1 by omega)] at h1
      have ho : m - (t + 1) < m := by omega
      have hot : m - (t + 1) + (t + 1) = m := by omega
      generalize m - (t + 1) = o at h1 ho hot hnext ⊢
      generalize tab1 l p m k t = TT at h1 hTl hnext ⊢
      have hS1 := s1 _ _ hS
      refine r_ifI (I := fun σ' H3 => ∃ v, σ' = [some (.ref q), some (.ref W), some (.int (o : Nat)), v] ∧ Same H H3 ∧ H3 W = some (.lst (List.replicate o (V.int 0) ++ cntV (baseB l p m k o TT) :: TT.map cntV))) (fun nx hnx => ?_) ?_
      · refine ⟨_, rfl, q, dx, _, rfl, hS1, spF_m_step_at, _, rfl, q, o, l, a, ws, p, m, k, rfl, S.same s1, ho, fun H2 s2 => ⟨_, rfl, ?_⟩⟩
        have h2 := s2 _ _ h1
        rw [optV_non]
        cases hst : stepAt l p m k o with
        | none =>
          refine iteF (hnx _ _ ⟨_, rfl, s1.trans s2, ?_⟩)
          have e : baseB l p m k o TT = Vamacb.nothing := by unfold baseB; rw [hst]
          rw [h2, e]
          rfl
        | some s =>
          have hT0 : (TT.map cntV)[0]? = some (cntV (atT TT 0)) := by rw [List.getElem?_map, atT_get (by omega)]; rfl
          have e : baseB l p m k o TT = Vamacb.withDeed (dAt l (p + o), s) (atT TT 0) := by unfold baseB; rw [hst]
          refine iteT ⟨_, rfl, _, rfl, _, _, rfl, rfl, W, _, _, cntV (atT TT 0), rfl, rfl, SqL.of h2, atI_nat (j := o + 1) (tl_past.trans hT0), _, rfl, _, rfl, W, _, _, o, rfl, rfl, h2, tl_ix, hnx _ _ ⟨_, rfl, Same.mut (s1.trans s2) hW0, ?_⟩⟩
          rw [upd_same, tl_set, e]
          rfl
      · rintro σ' H3 ⟨v, rfl, s3, h3⟩
        have hS3 := s3 _ _ hS
        refine ⟨_, rfl, q, dx, _, rfl, hS3, spF_m_inner_spans, _, rfl, q, o, l, a, ws, p, m, k, rfl, S.same s3, ho, fun H4 L ys s4 nL hL hy => ⟨L, rfl, ⟨ys, SqL.of hL⟩, ?_⟩⟩
        have hLW : L ≠ W := fun z => by rw [z, h3] at nL; cases nL
        refine for_list (K := K) (a := L) (xs := ys) (fun j σ H' => ∃ v, σ = [some (.ref q), some (.ref W), some (.int (o : Nat)), v] ∧ Same H H' ∧ H' L = some (.lst ys) ∧ All2 (NewSp T.Span.C H3 H' a (p + o)) (innerL l p m k o) ys ∧
          H' W = some (.lst (List.replicate o (V.int 0) ++ cntV (goInner l p TT o (baseB l p m k o TT) ((innerL l p m k o).take j)) :: TT.map cntV))) ⟨_, rfl, s3.trans s4, hL, hy, s4 _ _ h3⟩ (fun j σ H' _ ⟨_, _, _, h, _⟩ => SqL.of h) ?_ ?_
        · rintro j x σ H5 hj ⟨v, rfl, s5, h5, hy5, hw5⟩
          obtain ⟨y, hy1, hy2⟩ := hy5.getV hj
          obtain ⟨r, dr, rfl, nr, hr⟩ := hy2
          have hmem := List.mem_of_getElem? hy1
          obtain ⟨g1', g2', g3', g4', _, _⟩ := innerL_mem (Nat.le_of_lt ho) hmem
          have hms : y ∈ spansOf (p + o) (p + m) := (List.mem_filter.mp hmem).1
          have Sr : Spn T.Span.C H5 r l a ws (p + o) y.1 y.2 := NewSp.spn (H := H3) (H' := H5) ⟨r, dr, rfl, nr, hr⟩ (Same.refl _) (S.rc.same s5) hms (by omega) hfit S.few
          have hpos : 1 ≤ y.1 * y.2 := Nat.mul_pos (by omega) (by omega)
          obtain ⟨c, hc⟩ : ∃ c, y.1 * y.2 = c + 1 := ⟨y.1 * y.2 - 1, by omega⟩
          have hTc : (TT.map cntV)[c]? = some (cntV (atT TT c)) := by rw [List.getElem?_map, atT_get (by omega)]; rfl
          have hat : atI (List.replicate o (V.int 0) ++ cntV (goInner l p TT o (baseB l p m k o TT) ((innerL l p m k o).take j)) :: TT.map cntV) ((o : Nat) + (y.1 * y.2 : Nat) : Int) = some (cntV (atT TT c)) := by
            rw [hc, ← Int.natCast_add]
            exact atI_nat (tl_past.trans hTc)
          refine ⟨_, rfl, _, rfl, W, _, _, _, rfl, rfl, SqL.of hw5, atI_nat tl_at, _, rfl, _, rfl, _, rfl, r, dr, _, rfl, hr, spF_m_long, r, l, a, ws, p + o, y.1, y.2, rfl, Sr, _, _, rfl, rfl, W, _, _, _, rfl, rfl, SqL.of hw5, hat, _, _, rfl, rfl, _, rfl, _, rfl, W, _, _, o, rfl, rfl, hw5, tl_ix, _, rfl, Same.mut s5 hW0, ?_, ?_, ?_⟩
          · rw [upd_ne hLW]
            exact h5
          · exact hy5.mono fun x v h => h.butL But.wr hw5
          · rw [upd_same, tl_set, take_one hy1, goInner_snoc]
            have e : y.1 * y.2 - 1 = c := by omega
            rw [e]
            have ec : cntV (Vamacb.orElse (goInner l p TT o (baseB l p m k o TT) ((innerL l p m k o).take j)) (Vamacb.withLoop y.2 ⟨1, some (plainBody l (p + o) y.1 y.2)⟩ (atT TT c))) = .int (((goInner l p TT o (baseB l p m k o TT) ((innerL l p m k o).take j)).count : Nat) + ((atT TT c).count : Nat)) := by
              unfold cntV
              rw [count_orElse, count_loop, Nat.one_mul, Int.natCast_add]
            rw [ec]
        · rintro σ H5 ⟨v, rfl, s5, h5, hy5, hw5⟩
          refine ⟨_, _, rfl, s5, ?_⟩
          rw [← hy.1, List.take_length] at hw5
          rw [hw5, hnext]
          rfl
    · rintro σ H' ⟨v, w, rfl, s1, h1⟩
      have hTl : (tab1 l p m k m).length = m + 1 := tabG_length _ _ _
      refine ⟨_, rfl, W, _, 0, cntV (bodyF l p m k), rfl, rfl, SqL.of h1, ?_, hQ H' s1⟩
      refine atI_nat (j := 0) ?_
      rw [Nat.sub_self]
      show ((tab1 l p m k m).map cntV)[0]? = _
      rw [List.getElem?_map, atT_get (by omega)]
      rfl
end My
namespace My
open PySem PySem.Spec PyProof.Rows L2
open VamacBase (Deed Prog)
open Vamacb (Folded)
/-- a folding, or none: its size and its row, all of it new but for the recording's deeds -/
def Ent (l : List Deed) (a : Addr) (ws : List V) (N : Hp) : Option Prog → V → Prop
  | none, v => v = .non
  | some p, v => ∃ (t r : Addr) (ys : List V), v = .ref t ∧ N t = some (.tup [.int (p.size : Nat), .ref r]) ∧ N r = some (.lst ys) ∧ RowsE l a ws N p ys
section
variable {l : List Deed} {a : Addr} {ws : List V} {N N' : Hp} {b : Option Prog} {v w : V}
theorem Ent.mono (h : Ent l a ws N b v) (e : Same N N') : Ent l a ws N' b v := by
  cases b with
  | none => exact h
  | some p =>
    obtain ⟨t, r, ys, h1, h2, h3, h4⟩ := h
    exact ⟨t, r, ys, h1, e _ _ h2, e _ _ h3, h4.mono e⟩
theorem size_cons (c : Pc) (p : Prog) : (c.cons p).size = p.size + szC c := by
  cases c <;> simp [Pc.cons, Prog.size, szC] <;> omega
theorem rows_len {G : Hp} {p : Prog} {vs : List V} (h : RowsAt G p vs) : vs.length = p.row := by
  rw [← (rows_to p vs h).1, row_len]
/-- with_piece of a folding -/
theorem with_ent {HB Hc : Hp} {c : Pc} {pv rest : V} {n : Int} (hE : Ent l a ws (New HB Hc) b rest) (hP : PcE l a ws (New HB Hc) c pv) (hR : Rec Hc l a ws) (hb : ∀ p, b = some p → p.row ≤ 1000) (hD : Dom HB Hc) (hn : n = (szC c : Nat))
    : (rest = .non ∧ Same Hc Hc ∧ Ent l a ws (New HB Hc) (b.map c.cons) .non) ∨ ∃ (t : Addr) (s : Int) (r : Addr) (ys : List V), rest = .ref t ∧ Hc t = some (.tup [.int s, .ref r]) ∧ Hc r = some (.lst ys) ∧ ys.length ≤ 1000 ∧
    ∀ H' t' r', Same Hc H' → Hc t' = none → Hc r' = none → H' t' = some (.tup [.int (n + s), .ref r']) → H' r' = some (.lst (pv :: ys)) → Same Hc H' ∧ Ent l a ws (New HB H') (b.map c.cons) (.ref t') := by
  cases b with
  | none => exact .inl ⟨hE, Same.refl _, rfl⟩
  | some p =>
    obtain ⟨t, r, ys, rfl, h2, h3, h4⟩ := hE
    have hl : ys.length ≤ 1000 := by
      rw [rows_len (h4 Hc hR New.sub)]
      exact hb p rfl
    refine .inr ⟨t, _, r, ys, rfl, New.sub _ _ h2, New.sub _ _ h3, hl, fun H' t' r' s n1 n2 h5 h6 => ⟨s, t', r', pv :: ys, rfl, New.of (hD.none n1) ?_, New.of (hD.none n2) h6, fun G R M => ?_⟩⟩
    · rw [h5, hn, size_cons]
      have e : ((szC c : Nat) : Int) + ((p.size : Nat) : Int) = ((p.size + szC c : Nat) : Int) := by omega
      rw [e]
    · have M' : Same (New HB Hc) G := (New.same s).trans M
      exact rows_cons (hP G R M') (h4 G R M')
def szO (b : Option Prog) : Option Int := b.map fun p => ((p.size : Nat) : Int)
theorem Ent.sz {HB Hc : Hp} (h : Ent l a ws (New HB Hc) b v) : SzAt Hc (szO b) v := by
  cases b with
  | none => exact h
  | some p =>
    obtain ⟨t, r, ys, h1, h2, _⟩ := h
    exact ⟨t, .ref r, h1, New.sub _ _ h2⟩
theorem Ent.pick {f g : Folded} (hf : Ent l a ws N f.best v) (hg : Ent l a ws N g.best w) : Ent l a ws N (Vamacb.orElse f g).best (if lessS (szO f.best) (szO g.best) = true then w else v) := by
  obtain ⟨cf, bf⟩ := f
  obtain ⟨cg, bg⟩ := g
  unfold Vamacb.orElse
  cases bf with
  | none => exact hg
  | some p =>
    cases bg with
    | none => exact hf
    | some q =>
      show Ent l a ws N (if q.size < p.size then some q else some p) (if decide (((q.size : Nat) : Int) < ((p.size : Nat) : Int)) = true then w else v)
      by_cases h : q.size < p.size
      · rw [if_pos h, if_pos (decide_eq_true (by omega))]
        exact hg
      · rw [if_neg h, if_neg (by rw [decide_eq_false (by omega)]; decide)]
        exact hf
end
theorem chain_size (l : List Deed) (p m k : Nat) : ∀ n o, (chain l p m k n o).size = n
  | 0, _ => rfl
  | n + 1, o => by
    show (chain l p m k n (o + 1)).size + 1 = n + 1
    rw [chain_size l p m k n (o + 1)]
theorem good_row {d n : Nat} {f : Folded} (g : GoodF d n f) (hn : n ≤ 1000) : ∀ p, f.best = some p → p.row ≤ 1000 := fun p h => Nat.le_trans (g p h).few hn
/-- least_body -/
def spLeastBody (C : Addr) : Sp := fun vs H Q _ => ∃ (q : Addr) (l : List Deed) (a : Addr) (ws : List V) (p m k : Nat), vs = [.ref q] ∧ Spn C H q l a ws p m k ∧ l.all okF = true ∧
  ∀ H' v, Same H H' → Ent l a ws (New H H') (bodyF l p m k).best v → Q v H'
theorem sc_Span_least_body : FnScope ["self", "best", "offset", "span", "other"] ["self"] (defScope s_Span_least_body) := ⟨rfl, rfl, rfl, by decide +kernel, rfl, by decide +kernel, by decide +kernel⟩
theorem ok_Span_least_body {P : Program} {w : World} {K : PySem.W.Frag} {mg : Str → Option Value} {base : Heap} (T : Txt K mg) : FnOk P w K mg base CX0 5 T.Span_least_body.f T.Span_least_body.fd ["self"] (spLeastBody T.Span.C) := by
  refine T.Span_least_body.F.ok sc_Span_least_body (fun vs H Q E h => ?_) (fun cdv A outer s H vs Q E hr h => ⟨_, (pss_cons (ps_set (i := 1) sc_Span_least_body.nd rfl (Or.inl rfl) (pe_op op_cat (pe_op op_rep (pe_lst (by exact (pa_cons pe_non pa_nil))) (pe_fldK (K := K) (pv 0) rfl)) (pe_lst (by exact (pa_cons (pe_tup (by exact (pa_cons pe_int (pa_cons (pe_lst pa_nil) pa_nil)))) pa_nil)))))
    (pss_cons (ps_for PassesOwn.never rfl (pi_range3 (by rfl) T.z_range (by exact (pa_cons (pe_op op_sub (pe_fldK (K := K) (pv 0) rfl) pe_int) (pa_cons (pe_un un_neg pe_int) (pa_cons (pe_un un_neg pe_int) pa_nil))))) (pg_name (i := 2) sc_Span_least_body.nd rfl (Or.inl rfl))
    (pss_cons (ps_if (pt_cmp (pc_notN (pe_meth (pv 0) T.Span.cl T.Span_step_at.m (ok_Span_step_at T) (hr.mono (by decide)) T.Span_step_at.b .nil pass0 (by exact (pa_cons (pv 2) pa_nil)))))
    (pss_one (ps_asg (pe_call (ok_with_piece T) (hr.mono (by decide)) rfl T.with_piece.g T.with_piece.k T.with_piece.b .nil pass0 (by exact (pa_cons pe_int (pa_cons (pe_meth (pv 0) T.Span.cl T.Span_deed_piece.m (ok_Span_deed_piece T) (hr.mono (by decide)) T.Span_deed_piece.b .nil pass0 (by exact (pa_cons (pv 2) pa_nil))) (pa_cons (pe_ix (ix_listK (K := K)) (pv 1) (pe_op op_add (pv 2) pe_int) (fun _ _ => rfl)) pa_nil))))) (pg_sub (pv 1) (pv 2) set_list)))
    pss_nil)
    (pss_one (ps_for PassesOwn.never rfl (pi_listK (K := K) (pe_meth (pv 0) T.Span.cl T.Span_inner_spans.m (ok_Span_inner_spans T) (hr.mono (by decide)) T.Span_inner_spans.b .nil pass0 (by exact (pa_cons (pv 2) pa_nil)))) (pg_name (i := 3) sc_Span_least_body.nd rfl (Or.inl rfl))
    (pss_cons (ps_set (i := 4) sc_Span_least_body.nd rfl (Or.inl rfl) (pe_call (ok_with_piece T) (hr.mono (by decide)) rfl T.with_piece.g T.with_piece.k T.with_piece.b .nil pass0 (by exact (pa_cons (pe_op op_add pe_int (pe_fldK (K := K) (pv 3) rfl)) (pa_cons (pe_meth0 (pv 3) T.Span.cl T.Span_plain_piece.m (ok_Span_plain_piece T) (hr.mono (by decide)) T.Span_plain_piece.b .nil pass0) (pa_cons (pe_ix (ix_listK (K := K)) (pv 1) (pe_op op_add (pv 2) (pe_meth0 (pv 3) T.Span.cl T.Span_long.m (ok_Span_long T) (hr.mono (by decide)) T.Span_long.b .nil pass0)) (fun _ _ => rfl)) pa_nil))))))
    (pss_one (ps_asg (pe_call (ok_lesser T) (hr.mono (by decide)) rfl T.lesser.g T.lesser.k T.lesser.b .nil pass0 (by exact (pa_cons (pe_ix (ix_listK (K := K)) (pv 1) (pv 2) (fun _ _ => rfl)) (pa_cons (pv 4) pa_nil)))) (pg_sub (pv 1) (pv 2) set_list))))))))
    (pss_one (ps_ret (pe_ix (ix_listK (K := K)) (pv 1) pe_int (fun _ _ => rfl)))))), ?_⟩)
  · obtain ⟨q, l, a, ws, p, m, k, rfl, _⟩ := h
    rfl
  · obtain ⟨q, l, a, ws, p, m, k, rfl, S, hok, hQ⟩ := h
    obtain ⟨dx, hS⟩ := S.at_
    have hm := S.m7
    have hm1 := S.m1
    have hfit : p + m ≤ l.length := by
      have := S.lt (o := m - 1) (by omega) (i := 0) (by have := S.k2; omega)
      omega
    have er : (List.replicate ((m : Nat) : Int).toNat [V.non]).flatten = List.replicate m V.non := by rw [Int.toNat_natCast, rep_flat]
    refine ⟨by show 1 ≤ sizeLine; decide, fun x hx => ?_⟩
    have z1 := Same.new (o := .lst [V.non]) hx
    have x1 : (upd H x (.lst [V.non])) x = some (.lst [V.non]) := upd_same
    generalize upd H x (.lst [V.non]) = H1 at z1 x1 ⊢
    have hS1 := z1 _ _ hS
    refine ⟨_, rfl, q, _, dx, _, _, rfl, hS1, T.Span.cl, T.n_Span_length, spF_length, x, m, [V.non], rfl, rfl, x1, by omega, by omega, ?_, fun y hy => ⟨by show 0 ≤ sizeLine; decide, fun r0 hr0 => ?_⟩⟩
    · rw [Int.toNat_natCast]
      exact Nat.le_of_lt (small1000 (by show 1 * m ≤ _; omega))
    rw [er] at hr0 ⊢
    have z2 := z1.trans (Same.new (o := .lst (List.replicate m V.non)) hy)
    have y2 : (upd H1 y (.lst (List.replicate m V.non))) y = some (.lst (List.replicate m V.non)) := upd_same
    generalize upd H1 y (.lst (List.replicate m V.non)) = H2 at z2 y2 hr0 ⊢
    refine ⟨by show 2 ≤ sizeLine; decide, fun t0 ht0 => ?_⟩
    have nr0 := (Dom.of z2).none hr0
    have z3 := z2.trans (Same.new (o := .lst []) hr0)
    have y3 := (Same.new (o := .lst []) hr0) _ _ y2
    have r3 : (upd H2 r0 (.lst [])) r0 = some (.lst []) := upd_same
    generalize upd H2 r0 (.lst []) = H3 at z3 y3 r3 ht0 ⊢
    refine ⟨by show 1 ≤ sizeLine; decide, fun z hz => ?_⟩
    have nt0 := (Dom.of z3).none ht0
    have z4 := z3.trans (Same.new (o := .tup [.int 0, .ref r0]) ht0)
    have y4 := (Same.new (o := .tup [.int 0, .ref r0]) ht0) _ _ y3
    have r4 := (Same.new (o := .tup [.int 0, .ref r0]) ht0) _ _ r3
    have t4 : (upd H3 t0 (.tup [.int 0, .ref r0])) t0 = some (.tup [.int 0, .ref r0]) := upd_same
    generalize upd H3 t0 (.tup [.int 0, .ref r0]) = H4 at z4 y4 r4 t4 hz ⊢
    have z5 := z4.trans (Same.new (o := .lst [.ref t0]) hz)
    have y5 := (Same.new (o := .lst [.ref t0]) hz) _ _ y4
    have r5 := (Same.new (o := .lst [.ref t0]) hz) _ _ r4
    have t5 := (Same.new (o := .lst [.ref t0]) hz) _ _ t4
    have w5 : (upd H4 z (.lst [.ref t0])) z = some (.lst [.ref t0]) := upd_same
    generalize upd H4 z (.lst [.ref t0]) = H5 at z5 y5 r5 t5 w5 ⊢
    refine ⟨y, z, _, _, rfl, rfl, y5, w5, ?_, fun W hW => ?_⟩
    · rw [List.length_replicate]
      exact Nat.le_of_lt (small1000 (by show m + 1 ≤ _; omega))
    have hW0 := (Dom.of z5).none hW
    have s0 := z5.trans (Same.new (o := .lst (List.replicate m V.non ++ [.ref t0])) hW)
    have hWv : (upd H5 W (.lst (List.replicate m V.non ++ [.ref t0]))) W = some (.lst (List.replicate m V.non ++ [.ref t0])) := upd_same
    have r6 := (Same.new (o := .lst (List.replicate m V.non ++ [.ref t0])) hW) _ _ r5
    have t6 := (Same.new (o := .lst (List.replicate m V.non ++ [.ref t0])) hW) _ _ t5
    generalize upd H5 W (.lst (List.replicate m V.non ++ [.ref t0])) = H0 at s0 hWv r6 t6 ⊢
    have hBt : (upd H W (.lst [])) t0 = none := by
      rw [upd_ne (fun e => by rw [e, hW] at t5; cases t5)]
      exact nt0
    have hBr : (upd H W (.lst [])) r0 = none := by
      rw [upd_ne (fun e => by rw [e, hW] at r5; cases r5)]
      exact nr0
    have hent : Ent l a ws (New (upd H W (.lst [])) H0) (some .done) (.ref t0) := ⟨t0, r0, [], rfl, New.of hBt t6, New.of hBr r6, fun G R M => rfl⟩
    have hHB : Same H (upd H W (.lst [])) := Same.new hW0
    have hBW : ∃ o, (upd H W (.lst [])) W = some o := ⟨_, upd_same⟩
    have hDom : ∀ {H' : Hp} {o : HO}, Same H H' → H' W = some o → Dom (upd H W (.lst [])) H' := fun s h => Dom.newL s h
    have hWr : ∀ {H' : Hp} {o : HO}, Same (New (upd H W (.lst [])) H') (New (upd H W (.lst [])) (upd H' W o)) := New.but But.wr hBW
    generalize upd H W (.lst []) = HB at hent hHB hBW hDom hWr
    clear hBt hBr r6 t6 z1 z2 z3 z4 z5 y2 y3 y4 y5 r3 r4 r5 t4 t5 w5 hz hr0 ht0 nr0 nt0
    have hS0 := s0 _ _ hS
    have hgood := goodT_tab1 (k := k) hok hfit
    refine ⟨_, rfl, q, _, dx, _, _, rfl, hS0, T.Span.cl, T.n_Span_length, spF_length, _, _, rfl, rfl, _, rfl, _, rfl, _, _, _, m, rfl, down_rg m (by omega), ?_⟩
    refine for_rangeC (lo := (m : Int) - 1) (c := -1) (n := m) (fun t σ H' => ∃ v w u xs, σ = [some (.ref q), some (.ref W), v, w, u] ∧ Same H H' ∧ H' W = some (.lst (List.replicate (m - t) V.non ++ xs)) ∧ All2 (fun (f : Folded) v => Ent l a ws (New HB H') f.best v) (tab1 l p m k t) xs) ?_ ?_ ?_
    · exact ⟨_, _, _, [.ref t0], rfl, s0, hWv, All2.one hent⟩
    · rintro t σ H' ht ⟨v, w, u, xs, rfl, s1, h1, hx1⟩
      have eo : ((m : Int) - 1 + (t : Nat) * (-1)) = ((m - (t + 1) : Nat) : Int) := by omega
      rw [eo]
      have hTl : (tab1 l p m k t).length = t + 1 := tabG_length _ _ _
      have hnext : tab1 l p m k (t + 1) = g1 l p m k (m - (t + 1)) (tab1 l p m k t) :: tab1 l p m k t := rfl
      have hgt := hgood t (Nat.le_of_lt ht)
      rw [tl_open (show m - t = m - (t + 1) + 1 by omega)] at h1
      have ho : m - (t + 1) < m := by omega
      have hot : m - (t + 1) + (t + 1) = m := by omega
      generalize m - (t + 1) = o at h1 ho hot hnext ⊢
      generalize tab1 l p m k t = TT at h1 hTl hnext hx1 hgt ⊢
      have hrow : ∀ i, i < TT.length → ∀ p, (atT TT i).best = some p → p.row ≤ 1000 := fun i hi => good_row (hgt i hi) (by omega)
      have hS1 := s1 _ _ hS
      refine r_ifI (I := fun σ' H3 => ∃ w u x xs, σ' = [some (.ref q), some (.ref W), some (.int (o : Nat)), w, u] ∧ Same H H3 ∧ H3 W = some (.lst (List.replicate o V.non ++ x :: xs)) ∧ Ent l a ws (New HB H3) (baseB l p m k o TT).best x ∧ All2 (fun (f : Folded) v => Ent l a ws (New HB H3) f.best v) TT xs) (fun nx hnx => ?_) ?_
      · refine ⟨_, rfl, q, dx, _, rfl, hS1, spF_m_step_at, _, rfl, q, o, l, a, ws, p, m, k, rfl, S.same s1, ho, fun H2 s2 => ⟨_, rfl, ?_⟩⟩
        have h2 := s2 _ _ h1
        have hx2 : All2 (fun (f : Folded) v => Ent l a ws (New HB H2) f.best v) TT xs := hx1.mono fun f v h => h.mono (New.same s2)
        rw [optV_non]
        cases hst : stepAt l p m k o with
        | none =>
          refine iteF (hnx _ _ ⟨_, _, _, xs, rfl, s1.trans s2, h2, ?_, hx2⟩)
          have e : baseB l p m k o TT = Vamacb.nothing := by unfold baseB; rw [hst]
          rw [e]
          rfl
        | some s =>
          have e : baseB l p m k o TT = Vamacb.withDeed (dAt l (p + o), s) (atT TT 0) := by unfold baseB; rw [hst]
          obtain ⟨dv, ed, _⟩ := S.rc.deed (S.lt0 ho)
          obtain ⟨rest, hr1, hr2⟩ := hx2.get (atT_get (show 0 < TT.length by omega))
          have hS2 := s2 _ _ hS1
          have s12 := s1.trans s2
          refine iteT ⟨_, rfl, q, dx, _, rfl, hS2, spF_m_deed_piece, _, rfl, q, o, l, a, ws, p, m, k, s, dv, rfl, S.same s12, ho, hst, ed, fun H3 t s3 nt ht3 => ?_⟩
          have h3 := s3 _ _ h2
          refine ⟨_, rfl, _, rfl, _, _, rfl, rfl, W, _, _, rest, rfl, rfl, SqL.of h3, atI_nat (j := o + 1) (tl_past.trans hr1), ?_⟩
          have hP : PcE l a ws (New HB H3) (.deed (dAt l (p + o)) s) (.ref t) := fun G R M => by
            obtain ⟨dv', e2, e3⟩ := R.deed (S.lt0 ho)
            rw [ed] at e2
            cases e2
            exact ⟨t, dv, rfl, M _ _ (New.of ((hDom s12 h2).none nt) ht3), e3⟩
          refine ⟨_, _, _, fun v H' => Same H3 H' ∧ Ent l a ws (New HB H') ((atT TT 0).best.map (Pc.deed (dAt l (p + o)) s).cons) v, rfl, ?_, with_ent (n := 1) (hr2.mono (New.same s3)) hP (S.rc.same (s12.trans s3)) (hrow 0 (by omega)) (hDom (s12.trans s3) h3) rfl⟩
          rintro v4 H4 ⟨s4, hv4⟩
          have h4 := s4 _ _ h3
          refine ⟨_, rfl, _, rfl, W, _, _, o, rfl, rfl, h4, tl_ix, hnx _ _ ⟨_, _, v4, xs, rfl, Same.mut ((s12.trans s3).trans s4) hW0, ?_, ?_, ?_⟩⟩
          · rw [upd_same, tl_set]
          · rw [e]
            exact hv4.mono hWr
          · exact hx2.mono fun f v h => h.mono ((New.same (s3.trans s4)).trans hWr)
      · rintro σ' H3 ⟨w, u, x0, xs, rfl, s3, h3, hx0, hx3⟩
        have hS3 := s3 _ _ hS
        refine ⟨_, rfl, q, dx, _, rfl, hS3, spF_m_inner_spans, _, rfl, q, o, l, a, ws, p, m, k, rfl, S.same s3, ho, fun H4 L ys s4 nL hL hy => ⟨L, rfl, ⟨ys, SqL.of hL⟩, ?_⟩⟩
        have hLW : L ≠ W := fun z => by rw [z, h3] at nL; cases nL
        refine for_list (K := K) (a := L) (xs := ys) (fun j σ H' => ∃ w u x xs, σ = [some (.ref q), some (.ref W), some (.int (o : Nat)), w, u] ∧ Same H H' ∧ H' L = some (.lst ys) ∧ All2 (NewSp T.Span.C H3 H' a (p + o)) (innerL l p m k o) ys ∧
          H' W = some (.lst (List.replicate o V.non ++ x :: xs)) ∧ Ent l a ws (New HB H') (goInner l p TT o (baseB l p m k o TT) ((innerL l p m k o).take j)).best x ∧ All2 (fun (f : Folded) v => Ent l a ws (New HB H') f.best v) TT xs) ⟨_, _, x0, xs, rfl, s3.trans s4, hL, hy, s4 _ _ h3, hx0.mono (New.same s4), hx3.mono fun f v h => h.mono (New.same s4)⟩ (fun j σ H' _ ⟨_, _, _, _, _, _, h, _⟩ => SqL.of h) ?_ ?_
        · rintro j x σ H5 hj ⟨w, u, x5, xs5, rfl, s5, h5, hy5, hw5, hx5, hxs5⟩
          obtain ⟨y, hy1, hy2⟩ := hy5.getV hj
          obtain ⟨r, dr, rfl, nr, hr⟩ := hy2
          have hmem := List.mem_of_getElem? hy1
          obtain ⟨g1', g2', g3', g4', gpl, _⟩ := innerL_mem (Nat.le_of_lt ho) hmem
          have hms : y ∈ spansOf (p + o) (p + m) := (List.mem_filter.mp hmem).1
          have Sr : Spn T.Span.C H5 r l a ws (p + o) y.1 y.2 := NewSp.spn (H := H3) (H' := H5) ⟨r, dr, rfl, nr, hr⟩ (Same.refl _) (S.rc.same s5) hms (by omega) hfit S.few
          have hpos : 1 ≤ y.1 * y.2 := Nat.mul_pos (by omega) (by omega)
          obtain ⟨c, hc⟩ : ∃ c, y.1 * y.2 = c + 1 := ⟨y.1 * y.2 - 1, by omega⟩
          refine ⟨_, rfl, r, _, dr, _, _, rfl, hr, T.Span.cl, T.n_Span_length, spF_length, _, _, rfl, rfl, _, rfl, r, dr, _, rfl, hr, spF_m_plain_piece, r, l, a, ws, p + o, y.1, y.2, rfl, Sr, gpl, fun H6 pv s6 hpv => ?_⟩
          have s56 := s5.trans s6
          have hw6 := s6 _ _ hw5
          have hr6 := s6 _ _ hr
          have hD5 := hDom s5 hw5
          have hPv : PcE l a ws (New HB H6) (.times y.2 (plainBody l (p + o) y.1 y.2)) pv := hpv.mono (New.more hD5)
          have hxs6 : All2 (fun (f : Folded) v => Ent l a ws (New HB H6) f.best v) TT xs5 := hxs5.mono fun f v h => h.mono (New.same s6)
          obtain ⟨rest, hr1, hr2⟩ := hxs6.get (atT_get (show c < TT.length by omega))
          have hat : atI (List.replicate o V.non ++ x5 :: xs5) ((o : Nat) + (y.1 * y.2 : Nat) : Int) = some rest := by
            rw [hc, ← Int.natCast_add]
            exact atI_nat (tl_past.trans hr1)
          refine ⟨_, rfl, _, rfl, _, rfl, r, dr, _, rfl, hr6, spF_m_long, r, l, a, ws, p + o, y.1, y.2, rfl, Sr.same s6, _, _, rfl, rfl, W, _, _, _, rfl, rfl, SqL.of hw6, hat, ?_⟩
          refine ⟨_, _, _, fun v H' => Same H6 H' ∧ Ent l a ws (New HB H') ((atT TT c).best.map (Pc.times y.2 (plainBody l (p + o) y.1 y.2)).cons) v, rfl, ?_, with_ent (n := 1 + ((y.1 : Nat) : Int)) hr2 hPv (S.rc.same s56) (hrow c (by omega)) (hDom s56 hw6) ?_⟩
          rotate_left
          · show 1 + ((y.1 : Nat) : Int) = (((plainBody l (p + o) y.1 y.2).size + 1 : Nat) : Int)
            unfold plainBody
            rw [chain_size]
            omega
          · rintro v7 H7 ⟨s7, hv7⟩
            have s567 := s56.trans s7
            have hw7 := s7 _ _ hw6
            have hx7 := hx5.mono (New.same (s6.trans s7))
            have hb : (Vamacb.withLoop y.2 ⟨1, some (plainBody l (p + o) y.1 y.2)⟩ (atT TT c)).best = (atT TT c).best.map (Pc.times y.2 (plainBody l (p + o) y.1 y.2)).cons := rfl
            rw [← hb] at hv7
            refine ⟨_, rfl, _, rfl, W, _, _, _, rfl, rfl, SqL.of hw7, atI_nat tl_at, _, rfl, x5, v7, _, _, rfl, hx7.sz, hv7.sz, ?_⟩
            refine ⟨_, rfl, _, rfl, W, _, _, o, rfl, rfl, hw7, tl_ix, ?_⟩
            refine ⟨_, _, (if lessS (szO (goInner l p TT o (baseB l p m k o TT) ((innerL l p m k o).take j)).best) (szO (Vamacb.withLoop y.2 ⟨1, some (plainBody l (p + o) y.1 y.2)⟩ (atT TT c)).best) = true then v7 else x5), xs5, rfl, Same.mut s567 hW0, ?_, ?_, ?_, ?_, ?_⟩
            · rw [upd_ne hLW]
              exact s7 _ _ (s6 _ _ h5)
            · exact hy5.mono fun x v h => (h.same (s6.trans s7)).butL But.wr hw7
            · rw [upd_same, tl_set]
            · rw [take_one hy1, goInner_snoc, show y.1 * y.2 - 1 = c by omega]
              exact (hx7.pick hv7).mono hWr
            · exact hxs6.mono fun f v h => h.mono ((New.same s7).trans hWr)
        · rintro σ H5 ⟨w, u, x5, xs5, rfl, s5, h5, hy5, hw5, hx5, hxs5⟩
          rw [← hy.1, List.take_length] at hx5
          refine ⟨_, _, _, x5 :: xs5, rfl, s5, hw5, ?_⟩
          rw [hnext]
          exact All2.cons hx5 hxs5
    · rintro σ H' ⟨v, w, u, xs, rfl, s1, h1, hx1⟩
      have hTl : (tab1 l p m k m).length = m + 1 := tabG_length _ _ _
      obtain ⟨x, e1, e2⟩ := hx1.get (atT_get (show 0 < (tab1 l p m k m).length by omega))
      refine ⟨_, rfl, W, _, 0, x, rfl, rfl, SqL.of h1, atI_nat (j := 0) ?_, hQ H' x s1 (e2.mono (New.more (Dom.of hHB)))⟩
      rw [Nat.sub_self]
      exact e1
end My
namespace My
open PySem PySem.Spec PyProof.Rows L2
open VamacBase (Deed Prog)
open Vamacb (Folded)
/-- many_foldings -/
def spManyFoldings : Sp := fun vs H Q _ => ∃ (l : List Deed) (a : Addr) (ws : List V), vs = [.ref a] ∧ Rec H l a ws ∧ l.length ≤ 14 ∧ ∀ H', Same H H' → Q (.int ((Vamacb.foldings l).count : Nat)) H'
theorem sc_many_foldings : FnScope ["recording", "many", "ways", "place", "span"] ["recording"] (defScope s_many_foldings) := ⟨rfl, rfl, rfl, by decide +kernel, rfl, by decide +kernel, by decide +kernel⟩
theorem ok_many_foldings {P : Program} {w : World} {K : PySem.W.Frag} {mg : Str → Option Value} {base : Heap} (T : Txt K mg) : FnOk P w K mg base CX0 6 T.many_foldings.f T.many_foldings.fd ["recording"] (spManyFoldings) := by
  refine T.many_foldings.F.ok sc_many_foldings (fun vs H Q E h => ?_) (fun cdv A outer s H vs Q E hr h => ⟨_, (pss_cons (ps_set (i := 1) sc_many_foldings.nd rfl (Or.inl rfl) (pe_callB (call_lenK (K := K)) (by rfl) T.z_len PySem.boot_len (by exact (pa_cons (pv 0) pa_nil))))
    (pss_cons (ps_set (i := 2) sc_many_foldings.nd rfl (Or.inl rfl) (pe_op op_cat (pe_op op_rep (pe_lst (by exact (pa_cons pe_int pa_nil))) (pv 1)) (pe_lst (by exact (pa_cons pe_int pa_nil)))))
    (pss_cons (ps_for PassesOwn.never rfl (pi_range3 (by rfl) T.z_range (by exact (pa_cons (pe_op op_sub (pv 1) pe_int) (pa_cons (pe_un un_neg pe_int) (pa_cons (pe_un un_neg pe_int) pa_nil))))) (pg_name (i := 3) sc_many_foldings.nd rfl (Or.inl rfl))
    (pss_cons (ps_asg (pe_ix (ix_listK (K := K)) (pv 2) (pe_op op_add (pv 3) pe_int) (fun _ _ => rfl)) (pg_sub (pv 2) (pv 3) set_list))
    (pss_one (ps_for PassesOwn.never rfl (pi_listK (K := K) (pe_call (ok_spans_at T) (hr.mono (by decide)) rfl T.spans_at.g T.spans_at.k T.spans_at.b .nil pass0 (by exact (pa_cons (pv 0) (pa_cons (pv 3) (pa_cons (pv 1) pa_nil)))))) (pg_name (i := 4) sc_many_foldings.nd rfl (Or.inl rfl))
    (pss_one (ps_asg (pe_op op_add (pe_ix (ix_listK (K := K)) (pv 2) (pv 3) (fun _ _ => rfl)) (pe_op op_mul (pe_meth0 (pv 4) T.Span.cl T.Span_many_bodies.m (ok_Span_many_bodies T) (hr.mono (by decide)) T.Span_many_bodies.b .nil pass0) (pe_ix (ix_listK (K := K)) (pv 2) (pe_op op_add (pv 3) (pe_meth0 (pv 4) T.Span.cl T.Span_long.m (ok_Span_long T) (hr.mono (by decide)) T.Span_long.b .nil pass0)) (fun _ _ => rfl)))) (pg_sub (pv 2) (pv 3) set_list)))))))
    (pss_one (ps_ret (pe_ix (ix_listK (K := K)) (pv 2) pe_int (fun _ _ => rfl))))))), ?_⟩)
  · obtain ⟨l, a, ws, rfl, _⟩ := h
    rfl
  · obtain ⟨l, a, ws, rfl, R, hfew, hQ⟩ := h
    have hwl : ws.length = l.length := R.all.1.symm
    refine ⟨_, rfl, a, ws, rfl, .inl (SqL.of R.at_), ?_⟩
    rw [hwl]
    have er : (List.replicate ((l.length : Nat) : Int).toNat [V.int 0]).flatten = List.replicate l.length (V.int 0) := by rw [Int.toNat_natCast, rep_flat]
    refine ⟨by show 1 ≤ sizeLine; decide, fun x hx => ?_⟩
    have z1 := Same.new (o := .lst [V.int 0]) hx
    have x1 : (upd H x (.lst [V.int 0])) x = some (.lst [V.int 0]) := upd_same
    generalize upd H x (.lst [V.int 0]) = H1 at z1 x1 ⊢
    refine ⟨_, rfl, x, l.length, [V.int 0], rfl, rfl, x1, by omega, by omega, ?_, fun y hy => ⟨by show 1 ≤ sizeLine; decide, fun z hz => ?_⟩⟩
    · rw [Int.toNat_natCast]
      exact Nat.le_of_lt (small1000 (by show 1 * l.length ≤ _; omega))
    rw [er] at hz ⊢
    have z2 := z1.trans (Same.new (o := .lst (List.replicate l.length (V.int 0))) hy)
    have y2 : (upd H1 y (.lst (List.replicate l.length (V.int 0)))) y = some (.lst (List.replicate l.length (V.int 0))) := upd_same
    generalize upd H1 y (.lst (List.replicate l.length (V.int 0))) = H2 at z2 y2 hz ⊢
    have z3 := z2.trans (Same.new (o := .lst [V.int 1]) hz)
    have y3 := (Same.new (o := .lst [V.int 1]) hz) _ _ y2
    have w3 : (upd H2 z (.lst [V.int 1])) z = some (.lst [V.int 1]) := upd_same
    generalize upd H2 z (.lst [V.int 1]) = H3 at z3 y3 w3 ⊢
    refine ⟨y, z, _, _, rfl, rfl, y3, w3, ?_, fun W hW => ?_⟩
    · rw [List.length_replicate]
      exact Nat.le_of_lt (small1000 (by show l.length + 1 ≤ _; omega))
    have hW0 := (Dom.of z3).none hW
    have s0 := z3.trans (Same.new (o := .lst (List.replicate l.length (V.int 0) ++ [V.int 1])) hW)
    have hWv : (upd H3 W (.lst (List.replicate l.length (V.int 0) ++ [V.int 1]))) W = some (.lst (List.replicate l.length (V.int 0) ++ [V.int 1])) := upd_same
    generalize upd H3 W (.lst (List.replicate l.length (V.int 0) ++ [V.int 1])) = H0 at s0 hWv ⊢
    clear z1 x1 z2 y2 z3 y3 w3 hW hz hy hx
    refine ⟨_, rfl, _, _, rfl, rfl, _, rfl, _, rfl, _, _, _, l.length, rfl, down_rg l.length (by omega), ?_⟩
    refine for_rangeC (lo := (l.length : Int) - 1) (c := -1) (n := l.length) (fun t σ H' => ∃ v w, σ = [some (.ref a), some (.int (l.length : Nat)), some (.ref W), v, w] ∧ Same H H' ∧ H' W = some (.lst (List.replicate (l.length - t) (V.int 0) ++ (tab2 l t).map cntV))) ?_ ?_ ?_
    · exact ⟨_, _, rfl, s0, hWv⟩
    · rintro t σ H' ht ⟨v, w, rfl, s1, h1⟩
      have eo : ((l.length : Int) - 1 + (t : Nat) * (-1)) = ((l.length - (t + 1) : Nat) : Int) := by omega
      rw [eo]
      have hTl : (tab2 l t).length = t + 1 := tabG_length _ _ _
      have hnext : tab2 l (t + 1) = g2 l (l.length - (t + 1)) (tab2 l t) :: tab2 l t := rfl
      rw [tl_open (show l.length - t = l.length - (t + 1) + 1 by omega)] at h1
      have ho : l.length - (t + 1) < l.length := by omega
      have hot : l.length - (t + 1) + (t + 1) = l.length := by omega
      generalize l.length - (t + 1) = o at h1 ho hot hnext ⊢
      generalize tab2 l t = TT at h1 hTl hnext ⊢
      have hT0 : (TT.map cntV)[0]? = some (cntV (atT TT 0)) := by rw [List.getElem?_map, atT_get (by omega)]; rfl
      refine ⟨_, rfl, _, rfl, _, _, rfl, rfl, W, _, _, cntV (atT TT 0), rfl, rfl, SqL.of h1, atI_nat (j := o + 1) (tl_past.trans hT0), _, rfl, _, rfl, W, _, _, o, rfl, rfl, h1, tl_ix, ?_⟩
      rw [tl_set]
      have s3 : Same H (upd H' W (.lst (List.replicate o (V.int 0) ++ cntV (atT TT 0) :: TT.map cntV))) := Same.mut s1 hW0
      have h3 : (upd H' W (.lst (List.replicate o (V.int 0) ++ cntV (atT TT 0) :: TT.map cntV))) W = some (.lst (List.replicate o (V.int 0) ++ cntV (Vamacb.withDeed (dAt l o, 0) (atT TT 0)) :: TT.map cntV)) := upd_same
      generalize upd H' W (.lst (List.replicate o (V.int 0) ++ cntV (atT TT 0) :: TT.map cntV)) = H3 at s3 h3 ⊢
      refine ⟨_, rfl, _, rfl, _, rfl, a, o, l.length, rfl, by omega, hfew, fun H4 L ys s4 nL hL hy => ⟨L, rfl, ⟨ys, SqL.of hL⟩, ?_⟩⟩
      have hLW : L ≠ W := fun z => by rw [z, h3] at nL; cases nL
      refine for_list (K := K) (a := L) (xs := ys) (fun j σ H' => ∃ v, σ = [some (.ref a), some (.int (l.length : Nat)), some (.ref W), some (.int (o : Nat)), v] ∧ Same H H' ∧ H' L = some (.lst ys) ∧ All2 (NewSp T.Span.C H3 H' a o) (spansOf o l.length) ys ∧
        H' W = some (.lst (List.replicate o (V.int 0) ++ cntV (goOuter l o TT (Vamacb.withDeed (dAt l o, 0) (atT TT 0)) ((spansOf o l.length).take j)) :: TT.map cntV))) ⟨_, rfl, s3.trans s4, hL, hy, s4 _ _ h3⟩ (fun j σ H' _ ⟨_, _, _, h, _⟩ => SqL.of h) ?_ ?_
      · rintro j x σ H5 hj ⟨v, rfl, s5, h5, hy5, hw5⟩
        obtain ⟨y, hy1, hy2⟩ := hy5.getV hj
        obtain ⟨r, dr, rfl, nr, hr⟩ := hy2
        have hmem := List.mem_of_getElem? hy1
        obtain ⟨g1', g2', g3', g4'⟩ := mem_spans hmem
        have g4' := g4' (Nat.le_of_lt ho)
        have Sr : Spn T.Span.C H5 r l a ws o y.1 y.2 := NewSp.spn (H := H3) (H' := H5) ⟨r, dr, rfl, nr, hr⟩ (Same.refl _) (R.same s5) hmem (Nat.le_of_lt ho) (Nat.le_refl _) hfew
        have hpos : 1 ≤ y.1 * y.2 := Nat.mul_pos (by omega) (by omega)
        obtain ⟨c, hc⟩ : ∃ c, y.1 * y.2 = c + 1 := ⟨y.1 * y.2 - 1, by omega⟩
        have hTc : (TT.map cntV)[c]? = some (cntV (atT TT c)) := by rw [List.getElem?_map, atT_get (by omega)]; rfl
        have hat : atI (List.replicate o (V.int 0) ++ cntV (goOuter l o TT (Vamacb.withDeed (dAt l o, 0) (atT TT 0)) ((spansOf o l.length).take j)) :: TT.map cntV) ((o : Nat) + (y.1 * y.2 : Nat) : Int) = some (cntV (atT TT c)) := by
          rw [hc, ← Int.natCast_add]
          exact atI_nat (tl_past.trans hTc)
        have hcb : ((bodyF l o y.1 y.2).count : Int) ≤ 2 ^ 35 := by
          have := count_bodyF (l := l) (p := o) (k := y.2) Sr.m7
          omega
        refine ⟨_, rfl, _, rfl, W, _, _, _, rfl, rfl, SqL.of hw5, atI_nat tl_at, _, rfl, r, dr, _, rfl, hr, spF_m_many_bodies, r, l, a, ws, o, y.1, y.2, rfl, Sr, fun H6 s6 => ?_⟩
        have hw6 := s6 _ _ hw5
        have hr6 := s6 _ _ hr
        refine ⟨_, rfl, _, rfl, _, rfl, r, dr, _, rfl, hr6, spF_m_long, r, l, a, ws, o, y.1, y.2, rfl, Sr.same s6, _, _, rfl, rfl, W, _, _, _, rfl, rfl, SqL.of hw6, hat, _, _, rfl, rfl, .inl ⟨by omega, by omega⟩, _, _, rfl, rfl, _, rfl, _, rfl, W, _, _, o, rfl, rfl, hw6, tl_ix, _, rfl, Same.mut (s5.trans s6) hW0, ?_, ?_, ?_⟩
        · rw [upd_ne hLW]
          exact s6 _ _ h5
        · exact hy5.mono fun x v h => (h.same s6).butL But.wr hw6
        · rw [upd_same, tl_set, take_one hy1, goOuter_snoc, show y.1 * y.2 - 1 = c by omega]
          have ec : cntV (Vamacb.orElse (goOuter l o TT (Vamacb.withDeed (dAt l o, 0) (atT TT 0)) ((spansOf o l.length).take j)) (Vamacb.withLoop y.2 (bodyF l o y.1 y.2) (atT TT c))) = .int (((goOuter l o TT (Vamacb.withDeed (dAt l o, 0) (atT TT 0)) ((spansOf o l.length).take j)).count : Nat) + ((bodyF l o y.1 y.2).count : Nat) * ((atT TT c).count : Nat)) := by
            unfold cntV
            rw [count_orElse, count_loop, Int.natCast_add, Int.natCast_mul]
          rw [ec]
      · rintro σ H5 ⟨v, rfl, s5, h5, hy5, hw5⟩
        refine ⟨_, _, rfl, s5, ?_⟩
        rw [← hy.1, List.take_length] at hw5
        rw [hw5, hnext]
        rfl
    · rintro σ H' ⟨v, w, rfl, s1, h1⟩
      have hTl : (tab2 l l.length).length = l.length + 1 := tabG_length _ _ _
      refine ⟨_, rfl, W, _, 0, cntV (Vamacb.foldings l), rfl, rfl, SqL.of h1, ?_, hQ H' s1⟩
      refine atI_nat (j := 0) ?_
      rw [Nat.sub_self, foldings_tab]
      show ((tab2 l l.length).map cntV)[0]? = _
      rw [List.getElem?_map, atT_get (by omega)]
      rfl
/-- least_folding -/
def spLeastFolding : Sp := fun vs H Q _ => ∃ (l : List Deed) (a : Addr) (ws : List V), vs = [.ref a] ∧ Rec H l a ws ∧ l.length ≤ 14 ∧ l.all okF = true ∧ ∀ H' v, Same H H' → Ent l a ws (New H H') (Vamacb.foldings l).best v → Q v H'
theorem sc_least_folding : FnScope ["recording", "many", "best", "place", "span", "body", "piece"] ["recording"] (defScope s_least_folding) := ⟨rfl, rfl, rfl, by decide +kernel, rfl, by decide +kernel, by decide +kernel⟩
theorem ok_least_folding {P : Program} {w : World} {K : PySem.W.Frag} {mg : Str → Option Value} {base : Heap} (T : Txt K mg) : FnOk P w K mg base CX0 6 T.least_folding.f T.least_folding.fd ["recording"] (spLeastFolding) := by
  refine T.least_folding.F.ok sc_least_folding (fun vs H Q E h => ?_) (fun cdv A outer s H vs Q E hr h => ⟨_, (pss_cons (ps_set (i := 1) sc_least_folding.nd rfl (Or.inl rfl) (pe_callB (call_lenK (K := K)) (by rfl) T.z_len PySem.boot_len (by exact (pa_cons (pv 0) pa_nil))))
    (pss_cons (ps_set (i := 2) sc_least_folding.nd rfl (Or.inl rfl) (pe_op op_rep (pe_lst (by exact (pa_cons (pe_tup (by exact (pa_cons pe_int (pa_cons (pe_lst pa_nil) pa_nil)))) pa_nil))) (pe_op op_add (pv 1) pe_int)))
    (pss_cons (ps_for PassesOwn.never rfl (pi_range3 (by rfl) T.z_range (by exact (pa_cons (pe_op op_sub (pv 1) pe_int) (pa_cons (pe_un un_neg pe_int) (pa_cons (pe_un un_neg pe_int) pa_nil))))) (pg_name (i := 3) sc_least_folding.nd rfl (Or.inl rfl))
    (pss_cons (ps_asg (pe_call (ok_with_piece T) (hr.mono (by decide)) rfl T.with_piece.g T.with_piece.k T.with_piece.b .nil pass0 (by exact (pa_cons pe_int (pa_cons (pe_tup (by exact (pa_cons (pe_cst (by rfl) T.c_DEED) (pa_cons (pe_ix (ix_listK (K := K)) (pv 0) (pv 3) (fun _ _ => rfl)) (pa_cons pe_int pa_nil))))) (pa_cons (pe_ix (ix_listK (K := K)) (pv 2) (pe_op op_add (pv 3) pe_int) (fun _ _ => rfl)) pa_nil))))) (pg_sub (pv 2) (pv 3) set_list))
    (pss_one (ps_for PassesOwn.never rfl (pi_listK (K := K) (pe_call (ok_spans_at T) (hr.mono (by decide)) rfl T.spans_at.g T.spans_at.k T.spans_at.b .nil pass0 (by exact (pa_cons (pv 0) (pa_cons (pv 3) (pa_cons (pv 1) pa_nil)))))) (pg_name (i := 4) sc_least_folding.nd rfl (Or.inl rfl))
    (pss_cons (ps_set (i := 5) sc_least_folding.nd rfl (Or.inl rfl) (pe_meth0 (pv 4) T.Span.cl T.Span_least_body.m (ok_Span_least_body T) (hr.mono (by decide)) T.Span_least_body.b .nil pass0))
    (pss_one (ps_if (pt_cmp (pc_notN (pv 5)))
    (pss_cons (ps_set (i := 6) sc_least_folding.nd rfl (Or.inl rfl) (pe_tup (by exact (pa_cons (pe_cst (by rfl) T.c_LOOP) (pa_cons (pe_fldK (K := K) (pv 4) rfl) (pa_cons (pe_ix (ix_tupK (K := K)) (pv 5) pe_int (fun _ _ => rfl)) pa_nil))))))
    (pss_one (ps_asg (pe_call (ok_lesser T) (hr.mono (by decide)) rfl T.lesser.g T.lesser.k T.lesser.b .nil pass0 (by exact (pa_cons (pe_ix (ix_listK (K := K)) (pv 2) (pv 3) (fun _ _ => rfl)) (pa_cons (pe_call (ok_with_piece T) (hr.mono (by decide)) rfl T.with_piece.g T.with_piece.k T.with_piece.b .nil pass0 (by exact (pa_cons (pe_op op_add pe_int (pe_ix (ix_tupK (K := K)) (pv 5) pe_int (fun _ _ => rfl))) (pa_cons (pv 6) (pa_cons (pe_ix (ix_listK (K := K)) (pv 2) (pe_op op_add (pv 3) (pe_meth0 (pv 4) T.Span.cl T.Span_long.m (ok_Span_long T) (hr.mono (by decide)) T.Span_long.b .nil pass0)) (fun _ _ => rfl)) pa_nil))))) pa_nil)))) (pg_sub (pv 2) (pv 3) set_list))))
    pss_nil)))))))
    (pss_one (ps_ret (pe_ix (ix_listK (K := K)) (pv 2) pe_int (fun _ _ => rfl))))))), ?_⟩)
  · obtain ⟨l, a, ws, rfl, _⟩ := h
    rfl
  · obtain ⟨l, a, ws, rfl, R, hfew, hok, hQ⟩ := h
    have hwl : ws.length = l.length := R.all.1.symm
    refine ⟨_, rfl, a, ws, rfl, .inl (SqL.of R.at_), ?_⟩
    rw [hwl]
    refine ⟨by show 0 ≤ sizeLine; decide, fun r0 hr0 => ?_⟩
    have z1 := Same.new (o := .lst []) hr0
    have r1 : (upd H r0 (.lst [])) r0 = some (.lst []) := upd_same
    generalize upd H r0 (.lst []) = H1 at z1 r1 ⊢
    refine ⟨by show 2 ≤ sizeLine; decide, fun t0 ht0 => ?_⟩
    have nt0 := (Dom.of z1).none ht0
    have z2 := z1.trans (Same.new (o := .tup [.int 0, .ref r0]) ht0)
    have r2 := (Same.new (o := .tup [.int 0, .ref r0]) ht0) _ _ r1
    have t2 : (upd H1 t0 (.tup [.int 0, .ref r0])) t0 = some (.tup [.int 0, .ref r0]) := upd_same
    generalize upd H1 t0 (.tup [.int 0, .ref r0]) = H2 at z2 r2 t2 ⊢
    refine ⟨by show 1 ≤ sizeLine; decide, fun x hx => ?_⟩
    have z3 := z2.trans (Same.new (o := .lst [.ref t0]) hx)
    have r3 := (Same.new (o := .lst [.ref t0]) hx) _ _ r2
    have t3 := (Same.new (o := .lst [.ref t0]) hx) _ _ t2
    have x3 : (upd H2 x (.lst [.ref t0])) x = some (.lst [.ref t0]) := upd_same
    generalize upd H2 x (.lst [.ref t0]) = H3 at z3 r3 t3 x3 ⊢
    have er : (List.replicate (((l.length : Nat) : Int) + 1).toNat [V.ref t0]).flatten = List.replicate l.length (V.ref t0) ++ [V.ref t0] := by
      rw [show (((l.length : Nat) : Int) + 1).toNat = l.length + 1 by omega, rep_flat, List.replicate_succ']
    refine ⟨_, rfl, _, _, rfl, rfl, x, _, [V.ref t0], rfl, rfl, x3, by omega, by omega, ?_, fun W hW => ?_⟩
    · rw [show (((l.length : Nat) : Int) + 1).toNat = l.length + 1 by omega]
      exact Nat.le_of_lt (small1000 (by show 1 * (l.length + 1) ≤ _; omega))
    rw [er]
    have hW0 := (Dom.of z3).none hW
    have s0 := z3.trans (Same.new (o := .lst (List.replicate l.length (V.ref t0) ++ [.ref t0])) hW)
    have hWv : (upd H3 W (.lst (List.replicate l.length (V.ref t0) ++ [.ref t0]))) W = some (.lst (List.replicate l.length (V.ref t0) ++ [.ref t0])) := upd_same
    have r6 := (Same.new (o := .lst (List.replicate l.length (V.ref t0) ++ [.ref t0])) hW) _ _ r3
    have t6 := (Same.new (o := .lst (List.replicate l.length (V.ref t0) ++ [.ref t0])) hW) _ _ t3
    generalize upd H3 W (.lst (List.replicate l.length (V.ref t0) ++ [.ref t0])) = H0 at s0 hWv r6 t6 ⊢
    have hBt : (upd H W (.lst [])) t0 = none := by
      rw [upd_ne (fun e => by rw [e, hW] at t3; cases t3)]
      exact nt0
    have hBr : (upd H W (.lst [])) r0 = none := by
      rw [upd_ne (fun e => by rw [e, hW] at r3; cases r3)]
      exact hr0
    have hent : Ent l a ws (New (upd H W (.lst [])) H0) (some .done) (.ref t0) := ⟨t0, r0, [], rfl, New.of hBt t6, New.of hBr r6, fun G R M => rfl⟩
    have hHB : Same H (upd H W (.lst [])) := Same.new hW0
    have hBW : ∃ o, (upd H W (.lst [])) W = some o := ⟨_, upd_same⟩
    have hDom : ∀ {H' : Hp} {o : HO}, Same H H' → H' W = some o → Dom (upd H W (.lst [])) H' := fun s h => Dom.newL s h
    have hWr : ∀ {H' : Hp} {o : HO}, Same (New (upd H W (.lst [])) H') (New (upd H W (.lst [])) (upd H' W o)) := New.but But.wr hBW
    generalize upd H W (.lst []) = HB at hent hHB hBW hDom hWr
    clear hBt hBr r6 t6 z1 z2 z3 r1 r2 r3 t2 t3 x3 hx hr0 ht0 nt0
    have hgood := goodT_tab2 hok
    refine ⟨_, rfl, _, _, rfl, rfl, _, rfl, _, rfl, _, _, _, l.length, rfl, down_rg l.length (by omega), ?_⟩
    refine for_rangeC (lo := (l.length : Int) - 1) (c := -1) (n := l.length) (fun t σ H' => ∃ v w u y xs, σ = [some (.ref a), some (.int (l.length : Nat)), some (.ref W), v, w, u, y] ∧ Same H H' ∧ H' W = some (.lst (List.replicate (l.length - t) (V.ref t0) ++ xs)) ∧ All2 (fun (f : Folded) v => Ent l a ws (New HB H') f.best v) (tab2 l t) xs) ?_ ?_ ?_
    · exact ⟨_, _, _, _, [.ref t0], rfl, s0, hWv, All2.one hent⟩
    · rintro t σ H' ht ⟨v, w, u, yy, xs, rfl, s1, h1, hx1⟩
      have eo : ((l.length : Int) - 1 + (t : Nat) * (-1)) = ((l.length - (t + 1) : Nat) : Int) := by omega
      rw [eo]
      have hTl : (tab2 l t).length = t + 1 := tabG_length _ _ _
      have hnext : tab2 l (t + 1) = g2 l (l.length - (t + 1)) (tab2 l t) :: tab2 l t := rfl
      have hgt := hgood t (Nat.le_of_lt ht)
      rw [tl_open (show l.length - t = l.length - (t + 1) + 1 by omega)] at h1
      have ho : l.length - (t + 1) < l.length := by omega
      have hot : l.length - (t + 1) + (t + 1) = l.length := by omega
      generalize l.length - (t + 1) = o at h1 ho hot hnext ⊢
      generalize tab2 l t = TT at h1 hTl hnext hx1 hgt ⊢
      have hrow : ∀ i, i < TT.length → ∀ p, (atT TT i).best = some p → p.row ≤ 1000 := fun i hi => good_row (hgt i hi) (by omega)
      obtain ⟨dv, ed, _⟩ := R.deed ho
      refine ⟨_, rfl, _, rfl, a, ws, _, dv, rfl, rfl, SqL.of (s1 _ _ R.at_), atI_nat ed, by show 3 ≤ sizeLine; decide, fun t1 ht1 => ?_⟩
      have h2 := (Same.new (o := .tup [.int 0, dv, .int 0]) ht1) _ _ h1
      have s2 := s1.trans (Same.new (o := .tup [.int 0, dv, .int 0]) ht1)
      have hx2 : All2 (fun (f : Folded) v => Ent l a ws (New HB (upd H' t1 (.tup [.int 0, dv, .int 0]))) f.best v) TT xs := hx1.mono fun f v h => h.mono (New.same (Same.new ht1))
      have ht2 : (upd H' t1 (.tup [.int 0, dv, .int 0])) t1 = some (.tup [.int 0, dv, .int 0]) := upd_same
      have nt1 := (hDom s1 h1).none ht1
      generalize upd H' t1 (.tup [.int 0, dv, .int 0]) = H2 at h2 s2 hx2 ht2 ⊢
      obtain ⟨rest, hr1, hr2⟩ := hx2.get (atT_get (show 0 < TT.length by omega))
      have hP : PcE l a ws (New HB H2) (.deed (dAt l o) 0) (.ref t1) := fun G R' M => by
        obtain ⟨dv', e2, e3⟩ := R'.deed ho
        rw [ed] at e2
        cases e2
        exact ⟨t1, dv, rfl, M _ _ (New.of nt1 ht2), e3⟩
      refine ⟨_, rfl, _, rfl, _, _, rfl, rfl, W, _, _, rest, rfl, rfl, SqL.of h2, atI_nat (j := o + 1) (tl_past.trans hr1), _, _, _, fun v H' => Same H2 H' ∧ Ent l a ws (New HB H') ((atT TT 0).best.map (Pc.deed (dAt l o) 0).cons) v, rfl, ?_, with_ent (n := 1) hr2 hP (R.same s2) (hrow 0 (by omega)) (hDom s2 h2) rfl⟩
      rintro v3 H3' ⟨s3', hv3⟩
      have h3' := s3' _ _ h2
      refine ⟨_, rfl, _, rfl, W, _, _, o, rfl, rfl, h3', tl_ix, ?_⟩
      rw [tl_set]
      have s3 : Same H (upd H3' W (.lst (List.replicate o (V.ref t0) ++ v3 :: xs))) := Same.mut (s2.trans s3') hW0
      have h3 : (upd H3' W (.lst (List.replicate o (V.ref t0) ++ v3 :: xs))) W = some (.lst (List.replicate o (V.ref t0) ++ v3 :: xs)) := upd_same
      have hx0 : Ent l a ws (New HB (upd H3' W (.lst (List.replicate o (V.ref t0) ++ v3 :: xs)))) (Vamacb.withDeed (dAt l o, 0) (atT TT 0)).best v3 := hv3.mono hWr
      have hx3 : All2 (fun (f : Folded) v => Ent l a ws (New HB (upd H3' W (.lst (List.replicate o (V.ref t0) ++ v3 :: xs)))) f.best v) TT xs := hx2.mono fun f v h => (h.mono (New.same s3')).mono hWr
      generalize upd H3' W (.lst (List.replicate o (V.ref t0) ++ v3 :: xs)) = H3 at s3 h3 hx0 hx3 ⊢
      refine ⟨_, rfl, _, rfl, _, rfl, a, o, l.length, rfl, by omega, hfew, fun H4 L ys s4 nL hL hy => ⟨L, rfl, ⟨ys, SqL.of hL⟩, ?_⟩⟩
      have hLW : L ≠ W := fun z => by rw [z, h3] at nL; cases nL
      refine for_list (K := K) (a := L) (xs := ys) (fun j σ H' => ∃ w u z x xs, σ = [some (.ref a), some (.int (l.length : Nat)), some (.ref W), some (.int (o : Nat)), w, u, z] ∧ Same H H' ∧ H' L = some (.lst ys) ∧ All2 (NewSp T.Span.C H3 H' a o) (spansOf o l.length) ys ∧
        H' W = some (.lst (List.replicate o (V.ref t0) ++ x :: xs)) ∧ Ent l a ws (New HB H') (goOuter l o TT (Vamacb.withDeed (dAt l o, 0) (atT TT 0)) ((spansOf o l.length).take j)).best x ∧ All2 (fun (f : Folded) v => Ent l a ws (New HB H') f.best v) TT xs) ⟨_, _, _, v3, xs, rfl, s3.trans s4, hL, hy, s4 _ _ h3, hx0.mono (New.same s4), hx3.mono fun f v h => h.mono (New.same s4)⟩ (fun j σ H' _ ⟨_, _, _, _, _, _, _, h, _⟩ => SqL.of h) ?_ ?_
      · rintro j x σ H5 hj ⟨w, u, zz, x5, xs5, rfl, s5, h5, hy5, hw5, hx5, hxs5⟩
        obtain ⟨y, hy1, hy2⟩ := hy5.getV hj
        obtain ⟨r, dr, rfl, nr, hr⟩ := hy2
        have hmem := List.mem_of_getElem? hy1
        obtain ⟨g1', g2', g3', g4'⟩ := mem_spans hmem
        have g4' := g4' (Nat.le_of_lt ho)
        have Sr : Spn T.Span.C H5 r l a ws o y.1 y.2 := NewSp.spn (H := H3) (H' := H5) ⟨r, dr, rfl, nr, hr⟩ (Same.refl _) (R.same s5) hmem (Nat.le_of_lt ho) (Nat.le_refl _) hfew
        have hpos : 1 ≤ y.1 * y.2 := Nat.mul_pos (by omega) (by omega)
        obtain ⟨c, hc⟩ : ∃ c, y.1 * y.2 = c + 1 := ⟨y.1 * y.2 - 1, by omega⟩
        refine ⟨_, rfl, r, dr, _, rfl, hr, spF_m_least_body, r, l, a, ws, o, y.1, y.2, rfl, Sr, hok, fun H6 bv s6 hbv => ?_⟩
        have s56 := s5.trans s6
        have hw6 := s6 _ _ hw5
        have hr6 := s6 _ _ hr
        have hD5 := hDom s5 hw5
        have hbv := hbv.mono (New.more hD5)
        have hx6 := hx5.mono (New.same s6)
        have hxs6 : All2 (fun (f : Folded) v => Ent l a ws (New HB H6) f.best v) TT xs5 := hxs5.mono fun f v h => h.mono (New.same s6)
        have hs : goOuter l o TT (Vamacb.withDeed (dAt l o, 0) (atT TT 0)) ((spansOf o l.length).take (j + 1)) = Vamacb.orElse (goOuter l o TT (Vamacb.withDeed (dAt l o, 0) (atT TT 0)) ((spansOf o l.length).take j)) (Vamacb.withLoop y.2 (bodyF l o y.1 y.2) (atT TT c)) := by
          rw [take_one hy1, goOuter_snoc, show y.1 * y.2 - 1 = c by omega]
        rw [hs]
        have hgb := goodF_bodyF (k := y.2) hok (p := o) (m := y.1) (by have := Sr.m1; have h1 : y.1 * 1 ≤ y.1 * y.2 := Nat.mul_le_mul_left y.1 (by omega); omega)
        generalize bodyF l o y.1 y.2 = B at hbv hgb ⊢
        generalize goOuter l o TT (Vamacb.withDeed (dAt l o, 0) (atT TT 0)) ((spansOf o l.length).take j) = F0 at hx6 ⊢
        obtain ⟨cb, bb⟩ := B
        cases bb with
        | none =>
          obtain rfl : bv = .non := hbv
          refine ⟨_, rfl, _, rfl, iteF ⟨_, _, _, x5, xs5, rfl, s56, s6 _ _ h5, hy5.mono fun x v h => h.same s6, hw6, ?_, hxs6⟩⟩
          have e : (Vamacb.orElse F0 (Vamacb.withLoop y.2 ⟨cb, none⟩ (atT TT c))).best = F0.best := by
            obtain ⟨cf, bf⟩ := F0
            cases bf <;> rfl
          rw [e]
          exact hx6
        | some pb =>
          obtain ⟨tb, rb, yb, rfl, hb2, hb3, hb4⟩ := hbv
          have hb6 := New.sub _ _ hb2
          refine ⟨_, rfl, _, rfl, iteT ⟨_, rfl, r, _, dr, _, _, rfl, hr6, T.Span.cl, T.n_Span_rounds, spF_rounds, _, rfl, tb, _, 1, _, rfl, rfl, SqT.of (hb6), at1, by show 3 ≤ sizeLine; decide, fun tp htp => ?_⟩⟩
          have sp7 := Same.new (o := .tup [.int 1, .int (y.2 : Nat), .ref rb]) htp
          have hp7 : (upd H6 tp (.tup [.int 1, .int (y.2 : Nat), .ref rb])) tp = some (.tup [.int 1, .int (y.2 : Nat), .ref rb]) := upd_same
          have ntp := (hDom s56 hw6).none htp
          generalize upd H6 tp (.tup [.int 1, .int (y.2 : Nat), .ref rb]) = H7 at sp7 hp7 ⊢
          have s57 := s56.trans sp7
          have hw7 := sp7 _ _ hw6
          have hr7 := sp7 _ _ hr6
          have hPv : PcE l a ws (New HB H7) (.times y.2 pb) (.ref tp) := fun G R' M => ⟨tp, .ref rb, rfl, M _ _ (New.of ntp hp7), rb, yb, rfl, ((New.same sp7).trans M) _ _ hb3, hb4 G R' ((New.same sp7).trans M)⟩
          have hx7 := hx6.mono (New.same sp7)
          have hxs7 : All2 (fun (f : Folded) v => Ent l a ws (New HB H7) f.best v) TT xs5 := hxs6.mono fun f v h => h.mono (New.same sp7)
          obtain ⟨rest, hr1, hr2⟩ := hxs7.get (atT_get (show c < TT.length by omega))
          have hat : atI (List.replicate o (V.ref t0) ++ x5 :: xs5) ((o : Nat) + (y.1 * y.2 : Nat) : Int) = some rest := by
            rw [hc, ← Int.natCast_add]
            exact atI_nat (tl_past.trans hr1)
          refine ⟨_, rfl, _, rfl, W, _, _, _, rfl, rfl, SqL.of hw7, atI_nat tl_at, _, rfl, tb, _, 0, _, rfl, rfl, SqT.of (sp7 _ _ hb6), at0, _, _, rfl, rfl, _, rfl, _, rfl, _, rfl, _, rfl, r, dr, _, rfl, hr7, spF_m_long, r, l, a, ws, o, y.1, y.2, rfl, Sr.same (s6.trans sp7), _, _, rfl, rfl, W, _, _, _, rfl, rfl, SqL.of hw7, hat, ?_⟩
          refine ⟨_, _, _, fun v H' => Same H7 H' ∧ Ent l a ws (New HB H') ((atT TT c).best.map (Pc.times y.2 pb).cons) v, rfl, ?_, with_ent (n := 1 + ((pb.size : Nat) : Int)) hr2 hPv (R.same s57) (hrow c (by omega)) (hDom s57 hw7) ?_⟩
          rotate_left
          · show 1 + ((pb.size : Nat) : Int) = ((pb.size + 1 : Nat) : Int)
            omega
          · rintro v8 H8 ⟨s8, hv8⟩
            have hw8 := s8 _ _ hw7
            have hx8 := hx7.mono (New.same s8)
            have hb : (Vamacb.withLoop y.2 ⟨cb, some pb⟩ (atT TT c)).best = (atT TT c).best.map (Pc.times y.2 pb).cons := rfl
            rw [← hb] at hv8
            refine ⟨x5, v8, _, _, rfl, hx8.sz, hv8.sz, ?_⟩
            refine ⟨_, rfl, _, rfl, W, _, _, o, rfl, rfl, hw8, tl_ix, ?_⟩
            refine ⟨_, _, _, (if lessS (szO F0.best) (szO (Vamacb.withLoop y.2 ⟨cb, some pb⟩ (atT TT c)).best) = true then v8 else x5), xs5, rfl, Same.mut (s57.trans s8) hW0, ?_, ?_, ?_, ?_, ?_⟩
            · rw [upd_ne hLW]
              exact s8 _ _ (sp7 _ _ (s6 _ _ h5))
            · exact hy5.mono fun x v h => (h.same (s6.trans (sp7.trans s8))).butL But.wr hw8
            · rw [upd_same, tl_set]
            · exact (hx8.pick hv8).mono hWr
            · exact hxs7.mono fun f v h => h.mono ((New.same s8).trans hWr)
      · rintro σ H5 ⟨w, u, zz, x5, xs5, rfl, s5, h5, hy5, hw5, hx5, hxs5⟩
        rw [← hy.1, List.take_length] at hx5
        refine ⟨_, _, _, _, x5 :: xs5, rfl, s5, hw5, ?_⟩
        rw [hnext]
        exact All2.cons hx5 hxs5
    · rintro σ H' ⟨v, w, u, yy, xs, rfl, s1, h1, hx1⟩
      have hTl : (tab2 l l.length).length = l.length + 1 := tabG_length _ _ _
      obtain ⟨x, e1, e2⟩ := hx1.get (atT_get (show 0 < (tab2 l l.length).length by omega))
      rw [foldings_tab] at hQ
      refine ⟨_, rfl, W, _, 0, x, rfl, rfl, SqL.of h1, atI_nat (j := 0) ?_, hQ H' x s1 (e2.mono (New.more (Dom.of hHB)))⟩
      rw [Nat.sub_self]
      exact e1
end My
namespace My
open PySem PySem.Spec PyProof.Rows L2
/-- the two ints of a tracked tuple -/
def pairIn (H : Hp) (u : Value) : Int × Int := match u with
  | .ref b => (match H b with
    | some (.tup [.int x, .int y]) => (x, y)
    | _ => (0, 0))
  | _ => (0, 0)
theorem pairIn_at {H : Hp} {b : Addr} {x y : Int} (h : H b = some (.tup [.int x, .int y])) : pairIn H (.ref b) = (x, y) := by
  unfold pairIn
  simp only [h]
/-- a pair as a key -/
abbrev pkey (q : Int × Int) : List L2.Key := [Sum.inl q.1, Sum.inl q.2]
def PairAt (H : Hp) (q : Int × Int) (v : V) : Prop := ∃ t, v = .ref t ∧ H t = some (.tup [.int q.1, .int q.2])
/-- sorted(d) of a dict whose keys are pairs of ints -/
def rSortedK : List V → Hp → VK → Prop := fun vs H Q => ∃ (d : Addr) (kvs : List (List L2.Key × V)) (ks : List (Int × Int)), vs = [V.ref d] ∧ H d = some (.dT kvs) ∧ kvs.map (·.1) = ks.map pkey ∧ ks.length ≤ 1000 ∧
  ∀ (qs : List (Int × Int)) (ys : List V) (p : Addr), qs.Perm ks → (qs.Pairwise fun x y => SrtO.lexB y x = false) → All2 (PairAt H) qs ys → H p = none → Q (.ref p) (upd H p (.lst ys))
section
variable {X : Cx}
theorem cr_sortedK (hcalm : X.calm = true) : CallR X (.builtin "sorted") rSortedK := by
  intro pins s σ H vs us Q I r h
  obtain ⟨d, kvs, ks, rfl, hd, hks, hle, q⟩ := h
  obtain ⟨u, rfl, rx⟩ := vals1 r
  cases rx
  obtain ⟨z, hs, xs, pr, o, es, ep, ho, hx, hdt, he, hn⟩ := (show ObjOk X.prog X.w H s.heap d (.dT kvs) from I.hok d _ hd)
  have l1 : es.size = xs.length := size_of_entries he
  have l2 : kvs.length = xs.length := Paired.length pr
  have l3 : kvs.length = ks.length := by
    have e := congrArg List.length hks
    rw [List.length_map, List.length_map] at e
    exact e
  have hline : ks.length ≤ sizeLine := Nat.le_of_lt (small1000 hle)
  -- the keys' tuples
  have hkey : ∀ (j : Nat) (x : List L2.Key × Addr × Value), xs[j]? = some x → ∃ k : Int × Int, ks[j]? = some k ∧ H x.2.1 = some (.tup [.int k.1, .int k.2]) := by
    have go : ∀ {l : List (List L2.Key × V)} {m : List (List L2.Key × Addr × Value)} (kk : List (Int × Int)), KT H l m → l.map (·.1) = kk.map pkey → ∀ (j : Nat) (x : List L2.Key × Addr × Value), m[j]? = some x → ∃ k : Int × Int, kk[j]? = some k ∧ H x.2.1 = some (.tup [.int k.1, .int k.2]) := by
      intro l m kk pr
      induction pr generalizing kk with
      | nil => intro _ j x hj; simp at hj
      | @cons p x0 ps xs0 hp t ih =>
        intro e j x hj
        cases kk with
        | nil => simp at e
        | cons k kk =>
          rw [List.map_cons, List.map_cons] at e
          obtain ⟨e1, e2⟩ := List.cons.inj e
          cases j with
          | zero =>
            have ex : x0 = x := by simpa using hj
            subst ex
            have := hp.2.1
            rw [e1] at this
            exact ⟨k, rfl, this⟩
          | succ j =>
            obtain ⟨k', h1, h2⟩ := ih kk e2 j x (by simpa using hj)
            exact ⟨k', by simpa using h1, h2⟩
    exact go ks pr hks
  refine Calls.call_function_entry PyProof.Rows.kind_sorted PyProof.Rows.plain_sorted PyProof.Rows.entry_sorted (PyProof.Rows.args_sorted1 _) ?_
  unfold Builtin.«sorted»
  refine wpAny_bind (m := checkCount "sorted" 1 1 _) (wpAny_pure ?_)
  refine wpAny_bind (PySem.W.kdu_collect (A := X.A.in1) (kdl_raw hs hx hdt) (I.ok.hd hcalm) ho (by omega) fun h' tk acc kp it => ?_)
  have ea : acc.toList = xs.map fun x => Value.ref x.2.1 := by
    have hl : acc.toList.length = xs.length := by rw [Array.length_toList, it.1]; exact l1
    apply List.ext_getElem?
    intro j
    rw [List.getElem?_map]
    cases hj : acc.toList[j]? with
    | none =>
      have h1 := List.getElem?_eq_none_iff.mp hj
      rw [List.getElem?_eq_none (by omega)]
      all_goals rfl
    | some v =>
      obtain ⟨en, hen, hv⟩ := it.2 j v (by rw [← Array.getElem?_toList]; exact hj)
      have qe := entry_at he j
      rw [hen] at qe
      cases hb : xs[j]? with
      | none =>
        rw [hb] at qe
        exact nomatch (show some en = none from qe)
      | some b =>
        rw [hb] at qe
        have e2 : en = entryOfKey (tupleKind (mixKind X.prog X.w)) b := Option.some.inj qe
        rw [hv, e2]
        all_goals rfl
  have hal : acc.toList.length = ks.length := by rw [ea, List.length_map]; omega
  have I1 : Inv X pins σ H { s with heap := h', toks := tk } := I.kept kp
  -- what stands in the list
  have hv : ∀ v ∈ acc.toList, ∃ (b : Addr) (x y : Int), v = .ref b ∧ H b = some (.tup [.int x, .int y]) := by
    intro v hv
    rw [ea] at hv
    obtain ⟨x, hx, rfl⟩ := List.mem_map.mp hv
    obtain ⟨j, hj⟩ := List.mem_iff_getElem?.mp hx
    obtain ⟨k, _, hk⟩ := hkey j x hj
    exact ⟨x.2.1, k.1, k.2, rfl, hk⟩
  have hkeys : acc.toList.map (pairIn H) = ks := by
    apply List.ext_getElem?
    intro j
    rw [ea, List.map_map, List.getElem?_map]
    cases hj : xs[j]? with
    | none =>
      have h1 := List.getElem?_eq_none_iff.mp hj
      rw [List.getElem?_eq_none (show ks.length ≤ j by omega)]
      rfl
    | some x =>
      obtain ⟨k, h1, h2⟩ := hkey j x hj
      rw [h1]
      show some (pairIn H (.ref x.2.1)) = some k
      rw [pairIn_at h2]
  refine wpAny_bind (wpAny_newList ?_ (by rw [hal]; exact hline))
  have hoL : (h'.push (seqObj "list" acc.toList.toArray 0)).get? h'.objs.size = some (seqObj "list" acc.toList.toArray 0) := Heap.get?_push_size _ rfl
  show wpAny _ _ _ _ _ { s with heap := h'.push (seqObj "list" acc.toList.toArray 0), toks := tk }
  have hpair : ∀ v ∈ acc.toList, Srt.IsPair (h'.push (seqObj "list" acc.toList.toArray 0)) v (pairIn H v).1 (pairIn H v).2 := by
    intro v hm
    obtain ⟨b, x, y, rfl, hb⟩ := hv v hm
    rw [pairIn_at hb]
    obtain ⟨_, its2, r2, o2, ho2, hc2, n2, hd2⟩ := I1.hok _ _ hb
    obtain ⟨u1, u2, rfl, ri, rj⟩ := vals2 r2
    obtain ⟨t1, rfl⟩ := ri
    obtain ⟨t2, rfl⟩ := rj
    exact ⟨b, o2, t1, t2, n2, rfl, Heap.get?_push_of_some _ ho2, hc2, hd2⟩
  refine wpAny_bind (wpAny_holding (wpAny_call_entry PyProof.Rows.slot_list_sort ⟨_, hoL, rfl⟩ PyProof.Rows.entry_list_sort
    (SrtO.list_sort_ord (s := { s with heap := h'.push (seqObj "list" acc.toList.toArray 0), toks := tk }) (SrtO.swo_lex (pairIn H)) hoL (by rw [hal]; exact hline)
      (fun h2 => SrtO.pairs_sortableO (s := { s with heap := h'.push (seqObj "list" acc.toList.toArray 0), toks := tk }) (by omega) hpair fun o e => ?_) fun out g1 g2 => ⟨_, rfl, ?_⟩) (PyProof.Rows.args_list_sort _)))
  · have e' : some o = some (seqObj "list" acc.toList.toArray 0) := e.symm.trans hoL
    cases e'
    intro c
    exact absurd (Value.type.inj c) (by decide)
  · obtain ⟨e', he'⟩ := PyProof.Rows.sortedHeap_at (vs := acc.toList) (out := out.toArray) hoL
    have ho2 : ∀ v ∈ out, ∃ (b : Addr) (x y : Int), v = .ref b ∧ H b = some (.tup [.int x, .int y]) := fun v m => hv v (g2.perm.mem_iff.mp m)
    have hrefs : ∀ v ∈ out, ∃ b, v = Value.ref b := fun v m => let ⟨b, _, _, e, _⟩ := ho2 v m; ⟨b, e⟩
    have hlen : (out.map backV).length ≤ sizeLine := by
      rw [List.length_map, g2.perm.length_eq, hal]
      exact hline
    have hperm : (out.map (pairIn H)).Perm ks := by
      have := g2.perm.map (pairIn H)
      rw [hkeys] at this
      exact this
    have hall : All2 (PairAt H) (out.map (pairIn H)) (out.map backV) := by
      refine ⟨by rw [List.length_map, List.length_map], fun i a v h1 h2 => ?_⟩
      rw [List.getElem?_map] at h1 h2
      cases ho : out[i]? with
      | none => rw [ho] at h1; cases h1
      | some w =>
        rw [ho] at h1 h2
        obtain ⟨b, x, y, rfl, hb⟩ := ho2 w (List.mem_of_getElem? ho)
        have h1 : pairIn H (.ref b) = a := Option.some.inj h1
        have h2 : V.ref b = v := Option.some.inj h2
        rw [pairIn_at hb] at h1
        rw [← h1, ← h2]
        exact ⟨b, rfl, hb⟩
    refine wpAny_pure ⟨_, rfl, .ref h'.objs.size, upd H h'.objs.size (.lst (out.map backV)), I1.laid (t' := tk) (fun b u e => ?_) (Nat.le_refl _)
      (show ObjOk X.prog X.w _ _ _ (.lst (out.map backV)) from ⟨hlen, out, e', vals_back hrefs, he'⟩), rfl, q _ _ _ hperm ?_ hall (I1.hok.fresh (Nat.le_refl _))⟩
    · have hb : b < h'.objs.size := Heap.lt_size e
      rw [PyProof.Rows.sortedHeap_old (Nat.ne_of_lt hb) (by rw [size_push']; exact Nat.lt_succ_of_lt hb)]
      exact Heap.get?_push_of_some _ e
    · rw [List.pairwise_map]
      exact g1
end
end My
namespace My
open PySem PySem.Spec PyProof.Rows L2
open VamacBase (Deed Prog)
open Vamacb (Folded)
/-! ### plain_loops: the dict -/
abbrev kN (q : PK) : Int × Int := ((q.1 : Int), (q.2 : Int))
def dv (A : List (PK × Nat)) : List (List L2.Key × V) := A.map fun e => (pkey (kN e.1), V.int (e.2 : Nat))
theorem kN_inj {a b : PK} : pkey (kN a) = pkey (kN b) ↔ a = b := by
  obtain ⟨a1, a2⟩ := a
  obtain ⟨b1, b2⟩ := b
  constructor
  · intro h
    obtain ⟨h1, h2⟩ := List.cons.inj h
    obtain ⟨h2, _⟩ := List.cons.inj h2
    have e1 : (a1 : Int) = (b1 : Int) := Sum.inl.inj h1
    have e2 : (a2 : Int) = (b2 : Int) := Sum.inl.inj h2
    rw [Int.ofNat_inj.mp e1, Int.ofNat_inj.mp e2]
  · rintro h
    rw [h]
theorem dv_any (q : PK) (A : List (PK × Nat)) : ((dv A).any fun kv => decide (kv.1 = pkey (kN q))) = A.any fun e => decide (e.1 = q) := by
  unfold dv
  rw [List.any_map]
  congr 1
  funext e
  exact decide_eq_decide.mpr kN_inj
theorem dv_put (A : List (PK × Nat)) (q : PK) (k : Nat) : putK (dv A) (pkey (kN q)) (.int (k : Nat)) = dv (putP A q k) := by
  unfold putK putP
  rw [dv_any]
  split
  · unfold dv
    rw [List.map_map, List.map_map]
    congr 1
    funext e
    show (if pkey (kN e.1) = pkey (kN q) then _ else _) = _
    by_cases h : e.1 = q
    · rw [if_pos (kN_inj.mpr h)]
      show _ = ((fun e : PK × Nat => (pkey (kN e.1), V.int (e.2 : Nat))) (if e.1 = q then (e.1, k) else e))
      rw [if_pos h]
    · rw [if_neg fun z => h (kN_inj.mp z)]
      show _ = ((fun e : PK × Nat => (pkey (kN e.1), V.int (e.2 : Nat))) (if e.1 = q then (e.1, k) else e))
      rw [if_neg h]
  · unfold dv
    rw [List.map_append]
    rfl
theorem dv_val {A : List (PK × Nat)} (h : (A.map (·.1)).Nodup) {e : PK × Nat} (he : e ∈ A) : valV (dv A) (pkey (kN e.1)) = some (.int (e.2 : Nat)) := by
  unfold valV dv
  rw [List.find?_map]
  have : ((fun kv : List L2.Key × V => decide (kv.1 = pkey (kN e.1))) ∘ fun e : PK × Nat => (pkey (kN e.1), V.int (e.2 : Nat))) = fun x : PK × Nat => decide (x.1 = e.1) := by
    funext x
    exact decide_eq_decide.mpr kN_inj
  rw [this, find_key h he]
  rfl
theorem putP_len (A : List (PK × Nat)) (q : PK) (k : Nat) : (putP A q k).length ≤ A.length + 1 := by
  unfold putP
  split
  · rw [List.length_map]
    omega
  · rw [List.length_append]
    exact Nat.le_refl _
theorem turnP_len (l : List Deed) (p : Nat) : ∀ (L : List (Nat × Nat)) (A : List (PK × Nat)), (turnP l p A L).length ≤ A.length + L.length
  | [], A => Nat.le_refl _
  | x :: L, A => by
    have h := turnP_len l p L (if plainL l p x.1 x.2 = true then putP A (p, x.1) x.2 else A)
    have h2 := putP_len A (p, x.1) x.2
    show (turnP l p (if plainL l p x.1 x.2 = true then putP A (p, x.1) x.2 else A) L).length ≤ A.length + (L.length + 1)
    split at h <;> rename_i hc
    · rw [if_pos hc]
      omega
    · rw [if_neg hc]
      omega
theorem turnP_snoc (l : List Deed) (p : Nat) (A : List (PK × Nat)) (L : List (Nat × Nat)) (x : Nat × Nat) : turnP l p A (L ++ [x]) = if plainL l p x.1 x.2 = true then putP (turnP l p A L) (p, x.1) x.2 else turnP l p A L := by
  unfold turnP
  rw [List.foldl_append]
  rfl
theorem dictL_succ (l : List Deed) (n : Nat) : dictL l (n + 1) = turnP l n (dictL l n) (spansOf n l.length) := by
  unfold dictL
  rw [List.range_succ, List.foldl_append]
  rfl
theorem spansOf_le {l : List Deed} (h : l.length ≤ 14) (p : Nat) : (spansOf p l.length).length ≤ 56 := by
  rw [← spUp_all]
  have := spUp_le p l.length ((l.length - p) / 2)
  omega
theorem dictL_le {l : List Deed} (h : l.length ≤ 14) : ∀ n, (dictL l n).length ≤ 56 * n
  | 0 => Nat.le_refl _
  | n + 1 => by
    have h1 := dictL_le h n
    have h2 := turnP_len l n (spansOf n l.length) (dictL l n)
    have h3 := spansOf_le h n
    rw [dictL_succ]
    omega
/-- keys sorted -/
theorem keys_sorted {K : List PK} {qs : List (Int × Int)} (hp : qs.Perm (K.map kN)) (hs : qs.Pairwise fun x y => SrtO.lexB y x = false) (hK : K.Pairwise ltP) : qs = K.map kN := by
  let f : Int × Int → PK := fun q => (q.1.toNat, q.2.toNat)
  have hf : ∀ q ∈ qs, kN (f q) = q := by
    intro q hq
    obtain ⟨k, _, rfl⟩ := List.mem_map.mp (hp.mem_iff.mp hq)
    show ((((k.1 : Int).toNat : Nat) : Int), (((k.2 : Int).toNat : Nat) : Int)) = kN k
    rw [Int.toNat_natCast, Int.toNat_natCast]
  have e1 : (qs.map f).Perm K := by
    have := hp.map f
    rw [List.map_map] at this
    have e : (f ∘ kN) = id := by
      funext k
      show (((k.1 : Int).toNat, (k.2 : Int).toNat) : PK) = k
      rw [Int.toNat_natCast, Int.toNat_natCast]
    rw [e, List.map_id] at this
    exact this
  have e2 : (qs.map f).Pairwise fun x y => ¬ ltP y x := by
    rw [List.pairwise_map]
    refine List.Pairwise.imp_of_mem (fun {x y} hx hy h => ?_) hs
    have h := SrtO.lexB_no.mp h
    have hx := hf x hx
    have hy := hf y hy
    intro z
    apply h
    rw [← hx, ← hy]
    show ((((f y).1 : Nat) : Int) < (((f x).1 : Nat) : Int)) ∨ ((((f y).1 : Nat) : Int) = (((f x).1 : Nat) : Int) ∧ (((f y).2 : Nat) : Int) < (((f x).2 : Nat) : Int))
    rcases z with z | ⟨z1, z2⟩
    · exact .inl (by omega)
    · exact .inr ⟨by omega, by omega⟩
  have e3 := sorted_same e1 e2 hK
  rw [← e3, List.map_map]
  have : ∀ (L : List (Int × Int)), (∀ q ∈ L, kN (f q) = q) → L.map (kN ∘ f) = L := by
    intro L
    induction L with
    | nil => intro _; rfl
    | cons a L ih =>
      intro h
      rw [List.map_cons, ih fun q hq => h q (List.mem_cons_of_mem _ hq)]
      show kN (f a) :: L = a :: L
      rw [h a (by simp)]
  exact (this qs hf).symm
def LoopAt (H : Hp) (e : PK × Nat) (v : V) : Prop := ∃ t, v = .ref t ∧ H t = some (.tup [.int (e.1.1 : Nat), .int (e.1.2 : Nat), .int (e.2 : Nat)])
def spPlainLoops : Sp := fun vs H Q _ => ∃ (l : List Deed) (a : Addr) (ws : List V), vs = [.ref a] ∧ Rec H l a ws ∧ l.length ≤ 14 ∧
  ∀ H' L ys, Same H H' → H L = none → H' L = some (.lst ys) → All2 (LoopAt H') (allP l l.length) ys → Q (.ref L) H'
theorem sc_plain_loops : FnScope ["recording", "found", "place", "span", "length"] ["recording"] (defScope s_plain_loops) := ⟨rfl, rfl, rfl, by decide +kernel, rfl, by decide +kernel, by decide +kernel⟩
theorem ok_plain_loops {P : Program} {w : World} {K : PySem.W.Frag} {mg : Str → Option Value} {base : Heap} (T : Txt K mg) : FnOk P w K mg base CX0 4 T.plain_loops.f T.plain_loops.fd ["recording"] (spPlainLoops) := by
  refine T.plain_loops.F.ok sc_plain_loops (fun vs H Q E h => ?_) (fun cdv A outer s H vs Q E hr h => ⟨_, (pss_cons (ps_set (i := 1) sc_plain_loops.nd rfl (Or.inr rfl) pe_dnewT)
    (pss_cons (ps_for PassesOwn.never rfl (pi_range1 (by rfl) T.z_range (by exact (pa_cons (pe_callB (call_lenK (K := K)) (by rfl) T.z_len PySem.boot_len (by exact (pa_cons (pv 0) pa_nil))) pa_nil))) (pg_name (i := 2) sc_plain_loops.nd rfl (Or.inl rfl))
    (pss_one (ps_for PassesOwn.never rfl (pi_listK (K := K) (pe_call (ok_spans_at T) (hr.mono (by decide)) rfl T.spans_at.g T.spans_at.k T.spans_at.b .nil pass0 (by exact (pa_cons (pv 0) (pa_cons (pv 2) (pa_cons (pe_callB (call_lenK (K := K)) (by rfl) T.z_len PySem.boot_len (by exact (pa_cons (pv 0) pa_nil))) pa_nil)))))) (pg_name (i := 3) sc_plain_loops.nd rfl (Or.inl rfl))
    (pss_one (ps_if (pt_val (pe_meth0 (pv 3) T.Span.cl T.Span_is_plain_loop.m (ok_Span_is_plain_loop T) (hr.mono (by decide)) T.Span_is_plain_loop.b .nil pass0))
    (pss_one (ps_dput (Nat.lt_of_le_of_lt (Nat.add_le_add_left (by decide) _) hr.units) (pv 1) (pe_tup (by exact (pa_cons (pv 2) (pa_cons (pe_fldK (K := K) (pv 3) rfl) pa_nil)))) (pe_fldK (K := K) (pv 3) rfl) rfl))
    pss_nil)))))
    (pss_one (ps_ret (pe_lc (own := [("place", 2), ("length", 4)]) rfl sc_plain_loops.nd (pi_listK (K := K) (pe_callB (cr_sortedK rfl) (by rfl) T.z_sorted (by decide +kernel) (by exact (pa_cons (pv 1) pa_nil)))) (blkOk_by (N := ["recording", "found", "place", "span", "length"]) (sc := defScope s_plain_loops) (by decide +kernel)) (fun _ _ _ _ _ => (pg_tupK (K := K) (n := 2) (by rfl) (pgs_cons (pg_name (i := 2) sc_plain_loops.nd rfl (Or.inl rfl)) (pgs_cons (pg_name (i := 4) sc_plain_loops.nd rfl (Or.inl rfl)) pgs_nil)))) (fun _ _ _ _ _ => pts_nil) (fun _ _ _ _ _ => (pe_tup (by exact (pa_cons (pv 2) (pa_cons (pv 4) (pa_cons (pe_dget (Nat.lt_of_le_of_lt (Nat.add_le_add_left (by decide) _) hr.units) (pv 1) (pe_tup (by exact (pa_cons (pv 2) (pa_cons (pv 4) pa_nil)))) (fun _ _ => rfl)) pa_nil))))))))))), ?_⟩)
  · obtain ⟨l, a, ws, rfl, _⟩ := h
    rfl
  · obtain ⟨l, a, ws, rfl, R, hfew, hQ⟩ := h
    have hwl : ws.length = l.length := R.all.1.symm
    refine fun d hd => ?_
    have s0 := Same.new (o := .dT []) hd
    have hd0 : (upd H d (.dT [])) d = some (.dT (dv (dictL l 0))) := upd_same
    generalize upd H d (.dT []) = H0 at s0 hd0 ⊢
    refine ⟨_, rfl, a, ws, rfl, .inl (SqL.of (s0 _ _ R.at_)), l.length, by rw [hwl], by omega, by omega, ?_⟩
    refine for_range (lo := 0) (n := l.length) (fun p σ H' => ∃ v w u, σ = [some (.ref a), some (.ref d), v, w, u] ∧ Same H H' ∧ H' d = some (.dT (dv (dictL l p)))) ⟨_, _, _, rfl, s0, hd0⟩ ?_ ?_
    · rintro p σ H1 hp ⟨v, w, u, rfl, s1, h1⟩
      refine ⟨_, rfl, _, rfl, _, rfl, a, ws, rfl, .inl (SqL.of (s1 _ _ R.at_)), a, p, l.length, (by rw [Int.zero_add, hwl]; rfl), Nat.le_of_lt hp, hfew, fun H2 L ys s2 nL hL hy => ⟨L, rfl, ⟨ys, SqL.of hL⟩, ?_⟩⟩
      have hLd : L ≠ d := fun z => by rw [z, h1] at nL; cases nL
      refine for_list (K := K) (a := L) (xs := ys) (fun j σ H' => ∃ w u, σ = [some (.ref a), some (.ref d), some (.int (0 + (p : Nat))), w, u] ∧ Same H H' ∧ H' L = some (.lst ys) ∧ All2 (NewSp T.Span.C H1 H' a p) (spansOf p l.length) ys ∧ H' d = some (.dT (dv (turnP l p (dictL l p) ((spansOf p l.length).take j))))) ⟨_, _, rfl, s1.trans s2, hL, hy, s2 _ _ h1⟩ (fun j σ H' _ ⟨_, _, _, _, h, _⟩ => SqL.of h) ?_ ?_
      · rintro j x σ H3 hj ⟨w, u, rfl, s3, h3, hy3, hd3⟩
        obtain ⟨y, hy1, hy2⟩ := hy3.getV hj
        obtain ⟨r, dr, rfl, nr, hr⟩ := hy2
        have hmem := List.mem_of_getElem? hy1
        have Sr : Spn T.Span.C H3 r l a ws p y.1 y.2 := NewSp.spn (H := H1) (H' := H3) ⟨r, dr, rfl, nr, hr⟩ (Same.refl _) (R.same s3) hmem (Nat.le_of_lt hp) (Nat.le_refl _) hfew
        have hsn := turnP_snoc l p (dictL l p) ((spansOf p l.length).take j) y
        rw [← take_one hy1] at hsn
        refine ⟨_, rfl, r, dr, _, rfl, hr, spF_m_is_plain_loop, r, l, a, ws, p, y.1, y.2, rfl, Sr, fun H4 s4 => ⟨_, rfl, ?_⟩⟩
        have s34 := s3.trans s4
        have hd4 := s4 _ _ hd3
        have hr4 := s4 _ _ hr
        cases hpl : plainL l p y.1 y.2 with
        | false =>
          refine iteF ⟨_, _, rfl, s34, s4 _ _ h3, hy3.mono fun x v h => h.same s4, ?_⟩
          rw [hsn, hpl]
          exact hd4
        | true =>
          refine iteT ⟨_, rfl, r, _, dr, _, _, rfl, hr4, T.Span.cl, T.n_Span_rounds, spF_rounds, _, rfl, _, rfl, _, rfl, r, _, dr, _, _, rfl, hr4, T.Span.cl, T.n_Span_length, spF_length, by show 2 ≤ sizeLine; decide, fun kt hkt => ?_⟩
          have s5 := Same.new (o := .tup [.int (0 + (p : Nat)), .int (y.1 : Nat)]) hkt
          have hk5 : (upd H4 kt (.tup [.int (0 + (p : Nat)), .int (y.1 : Nat)])) kt = some (.tup ((pkey (kN (p, y.1))).map kV)) := by
            rw [upd_same, Int.zero_add]
            rfl
          have hd5 := s5 _ _ hd4
          have hlen : (dv (turnP l p (dictL l p) ((spansOf p l.length).take j))).length < sizeLine := by
            unfold dv
            rw [List.length_map]
            have e1 := turnP_len l p ((spansOf p l.length).take j) (dictL l p)
            have e2 := dictL_le hfew p
            have e3 := spansOf_le hfew p
            rw [List.length_take] at e1
            exact small1000 (by omega)
          refine ⟨d, _, rfl, DPut.t hd5 hk5 hlen, ?_⟩
          rw [dv_put]
          refine ⟨_, _, rfl, Same.mut (s34.trans s5) hd, ?_, ?_, ?_⟩
          · rw [upd_ne hLd]
            exact s5 _ _ (s4 _ _ h3)
          · exact hy3.mono fun x v h => by
              obtain ⟨r', dx', e1, e2, e3⟩ := (h.same s4).same s5
              exact ⟨r', dx', e1, e2, by rw [upd_ne (ne_of e3 hd5 (by intro z; cases z))]; exact e3⟩
          · rw [upd_same, hsn, hpl]
            rfl
      · rintro σ H3 ⟨w, u, rfl, s3, h3, hy3, hd3⟩
        refine ⟨_, _, _, rfl, s3, ?_⟩
        rw [← hy.1, List.take_length] at hd3
        rw [dictL_succ]
        exact hd3
    · rintro σ H1 ⟨v, w, u, rfl, s1, h1⟩
      have hle := dictL_le hfew l.length
      rw [dictL_eq] at h1 hle
      have hnd := allP_nodup l l.length
      have hso := allP_sorted l l.length
      generalize hA : allP l l.length = A at h1 hle hnd hso hQ
      have hks : (dv A).map (·.1) = ((A.map (·.1)).map kN).map pkey := by
        unfold dv
        rw [List.map_map, List.map_map, List.map_map]
        rfl
      refine ⟨_, rfl, d, dv A, (A.map (·.1)).map kN, rfl, h1, hks, by rw [List.length_map, List.length_map]; omega, fun qs ys L hperm hsorted hall hL => ?_⟩
      have hqs := keys_sorted hperm hsorted hso
      rw [hqs] at hall
      have s2 := Same.new (o := .lst ys) hL
      have hL2 : (upd H1 L (.lst ys)) L = some (.lst ys) := upd_same
      generalize upd H1 L (.lst ys) = H2 at s2 hL2 ⊢
      have h2 := s2 _ _ h1
      refine ⟨L, rfl, ⟨ys, SqL.of hL2⟩, fun D hD => ?_⟩
      refine lc_list (K := K) (a := L) (xs := ys) (fun i H' => Same H2 H' ∧ ∃ zs, H' D = some (.lst zs) ∧ All2 (LoopAt H') (A.take i) zs) ⟨Same.new hD, [], upd_same, All2.nil⟩ (fun i H' _ h' => SqL.of (h'.1 _ _ hL2)) ?_ ?_
      · rintro i x H3 hi ⟨s3, zs, h3, hz⟩
        obtain ⟨k, hk1, t, rfl, hk2⟩ := hall.getV hi
        rw [List.getElem?_map, List.getElem?_map] at hk1
        obtain ⟨e, he, hke⟩ : ∃ e, A[i]? = some e ∧ kN e.1 = k := by
          cases h : A[i]? with
          | none => rw [h] at hk1; cases hk1
          | some e => rw [h] at hk1; exact ⟨e, rfl, Option.some.inj hk1⟩
        subst hke
        have ht3 := s3 _ _ (s2 _ _ hk2)
        refine ⟨t, _, rfl, SqT.of ht3, rfl, _, _, rfl, _, _, rfl, rfl, rfl, ?_⟩
        refine ⟨_, rfl, _, rfl, _, rfl, _, rfl, _, rfl, by show 2 ≤ sizeLine; decide, fun kt hkt => ?_⟩
        have s4 := Same.new (o := .tup [.int (e.1.1 : Nat), .int (e.1.2 : Nat)]) hkt
        have hk4 : (upd H3 kt (.tup [.int (e.1.1 : Nat), .int (e.1.2 : Nat)])) kt = some (.tup ((pkey (kN e.1)).map kV)) := upd_same
        have hd4 := s4 _ _ (s3 _ _ h2)
        have h4 := s4 _ _ h3
        generalize upd H3 kt (.tup [.int (e.1.1 : Nat), .int (e.1.2 : Nat)]) = H4 at s4 hk4 hd4 h4 ⊢
        have hg := DGet.t (k := pkey (kN e.1)) hd4 hk4
        rw [dv_val hnd (List.mem_of_getElem? he)] at hg
        refine ⟨d, _, rfl, hg, by show 3 ≤ sizeLine; decide, fun tt htt => ?_⟩
        have s5 := Same.new (o := .tup [.int (e.1.1 : Nat), .int (e.1.2 : Nat), .int (e.2 : Nat)]) htt
        have h5 := s5 _ _ h4
        have ht5 : (upd H4 tt (.tup [.int (e.1.1 : Nat), .int (e.1.2 : Nat), .int (e.2 : Nat)])) tt = some (.tup [.int (e.1.1 : Nat), .int (e.1.2 : Nat), .int (e.2 : Nat)]) := upd_same
        generalize upd H4 tt (.tup [.int (e.1.1 : Nat), .int (e.1.2 : Nat), .int (e.2 : Nat)]) = H5 at s5 h5 ht5 ⊢
        have hb : ∀ (f : PK × Nat) (v : V), LoopAt H5 f v → LoopAt (upd H5 D (.lst (zs ++ [.ref tt]))) f v := fun f v ⟨b, b1, b2⟩ => ⟨b, b1, by rw [upd_ne (ne_of b2 h5 (by intro z; cases z))]; exact b2⟩
        have hlen : zs.length < sizeLine := by
          rw [← hz.1, List.length_take]
          exact small1000 (by omega)
        refine ⟨zs, h5, hlen, Same.mut (s3.trans (s4.trans s5)) hD, _, upd_same, ?_⟩
        rw [take_one he]
        exact All2.snoc (hz.mono fun f v ⟨b, b1, b2⟩ => hb f v ⟨b, b1, s5 _ _ (s4 _ _ b2)⟩) (hb e _ ⟨tt, rfl, ht5⟩)
      · rintro H3 ⟨s3, zs, h3, hz⟩
        have e1 : ys.length = A.length := by rw [← hall.1, List.length_map, List.length_map]
        rw [e1, List.take_length] at hz
        exact hQ H3 D zs (s1.trans (s2.trans s3)) ((Dom.of (s1.trans s2)).none hD) h3 hz
end My
namespace My
open PySem PySem.Spec PyProof.Rows L2
open VamacBase (Deed Prog hasNumber numberOf withNumber)
theorem every_all {R : Deed → V → Prop} {l : List Deed} {ws : List V} (h : All2 R l ws) (p m : Nat) : All2 R (strideL l p m) (everyV ws p m) := by
  have e : strideL l p m = (List.range (strideN l.length p m)).filterMap fun i => if p + i * m < l.length then some (dAt l (p + i * m)) else none := by
    unfold strideL
    rw [← List.filterMap_eq_map]
    apply fm_congr
    intro i hi
    have hi := List.mem_range.mp hi
    rw [if_pos]
    · rfl
    · unfold strideN at hi
      by_cases hm : 0 < m
      · have h1 : (i + 1) * m ≤ l.length - p + m - 1 := Nat.le_trans (Nat.mul_le_mul_right m hi) (Nat.div_mul_le_self _ _)
        rw [Nat.add_mul, Nat.one_mul] at h1
        omega
      · have : m = 0 := by omega
        rw [this, Nat.div_zero] at hi
        omega
  have e2 : ((List.range (strideN l.length p m)).map fun i => p + i * m).filterMap (fun i => l[i]?) = strideL l p m := by
    rw [e, List.filterMap_map]
    apply fm_congr
    intro i _
    show l[p + i * m]? = _
    by_cases h : p + i * m < l.length
    · rw [if_pos h, get_dAt h]
    · rw [if_neg h, List.getElem?_eq_none (by omega)]
  have e3 : ((List.range (strideN l.length p m)).map fun i => p + i * m).filterMap (fun i => ws[i]?) = everyV ws p m := by
    unfold everyV strideN
    rw [List.filterMap_map, h.1]
    rfl
  rw [← e2, ← e3]
  exact h.pick _
theorem cut_from {xs : List V} {i : Nat} (h : i ≤ xs.length) : cutV xs (some (i : Int)) none = xs.drop i := by
  unfold cutV
  have e1 : HT.sIx xs.length 0 (some (i : Int)) = i := by
    unfold HT.sIx
    simp only
    split <;> omega
  have e2 : HT.sIx xs.length xs.length none = xs.length := rfl
  rw [e1, e2]
  apply List.take_of_length_le
  rw [List.length_drop]
  omega
theorem at_neg {xs : List V} {m : Nat} (h1 : 1 ≤ m) (h2 : m ≤ xs.length) : atI xs (-(m : Int)) = xs[xs.length - m]? := by
  unfold atI ixN
  rw [if_neg (by omega), if_pos (by omega)]
  show xs[(-(m : Int) + (xs.length : Int)).toNat]? = _
  congr 1
  omega
/-- does_show -/
def spDoesShow : Sp := fun vs H Q _ => ∃ (l : List Deed) (a : Addr) (ws : List V) (m : Nat), vs = [.ref a, .int (m : Nat)] ∧ Rec H l a ws ∧ l.length ≤ 14 ∧ 1 ≤ m ∧ m ≤ 14 ∧ ∀ H', Same H H' → Q (.bl (showPy l m)) H'
theorem sc_does_show : FnScope ["deeds", "period", "place"] ["deeds", "period"] (defScope s_does_show) := ⟨rfl, rfl, rfl, by decide +kernel, rfl, by decide +kernel, by decide +kernel⟩
theorem ok_does_show {P : Program} {w : World} {K : PySem.W.Frag} {mg : Str → Option Value} {base : Heap} (T : Txt K mg) : FnOk P w K mg base CX0 2 T.does_show.f T.does_show.fd ["deeds", "period"] (spDoesShow) := by
  refine T.does_show.F.ok sc_does_show (fun vs H Q E h => ?_) (fun cdv A outer s H vs Q E hr h => ⟨_, (pss_one (ps_ret (pe_callB (cr_allK (K := K) rfl) (by rfl) T.z_all (by decide +kernel) (by exact (pa_cons (pe_lc (own := [("place", 2)]) rfl sc_does_show.nd (pi_range1 (by rfl) T.z_range (by exact (pa_cons (pe_callB (call_min2 rfl) (by rfl) T.z_min (by decide +kernel) (by exact (pa_cons (pv 1) (pa_cons (pe_callB (call_lenK (K := K)) (by rfl) T.z_len PySem.boot_len (by exact (pa_cons (pv 0) pa_nil))) pa_nil)))) pa_nil))) (blkOk_by (N := ["deeds", "period", "place"]) (sc := defScope s_does_show) (by decide +kernel)) (fun _ _ _ _ _ => (pg_name (i := 2) sc_does_show.nd rfl (Or.inl rfl))) (fun _ _ _ _ _ => pts_nil) (fun _ _ _ _ _ => (pe_cmp (pc_notN (pe_call (ok_step_of T) (hr.mono (by decide)) rfl T.step_of.g T.step_of.k T.step_of.b .nil pass0 (by exact (pa_cons (pe_sliceSK (K := K) (pv 0) (pv 2) (pv 1)) pa_nil)))) rfl))) pa_nil))))), ?_⟩)
  · obtain ⟨l, a, ws, m, rfl, _⟩ := h
    rfl
  · obtain ⟨l, a, ws, m, rfl, R, hfew, hm, hm2, hQ⟩ := h
    have hwl : ws.length = l.length := R.all.1.symm
    refine r_ret ⟨_, rfl, _, rfl, a, ws, rfl, .inl (SqL.of R.at_), _, _, rfl, ?_⟩
    have emin : (if ((ws.length : Nat) : Int) < ((m : Nat) : Int) then ((ws.length : Nat) : Int) else ((m : Nat) : Int)) = ((Nat.min m l.length : Nat) : Int) := by
      rw [hwl]
      show _ = ((min m l.length : Nat) : Int)
      split <;> omega
    rw [emin]
    have hle1 : Nat.min m l.length ≤ m := Nat.min_le_left _ _
    have hle2 : Nat.min m l.length ≤ l.length := Nat.min_le_right _ _
    have eall : showPy l m = ((List.range (Nat.min m l.length)).map fun p => (Vamacb.stepOf (strideL l p m)).isSome).all id := by
      rw [List.all_map]
      rfl
    rw [eall] at hQ
    generalize Nat.min m l.length = n at hle1 hle2 hQ ⊢
    refine ⟨n, rfl, by omega, by omega, fun D hD => ?_⟩
    refine lc_range (lo := 0) (n := n) (fun i H' => Same H H' ∧ H' D = some (.lst (((List.range i).map fun p => (Vamacb.stepOf (strideL l p m)).isSome).map V.bl))) ⟨Same.new hD, upd_same⟩ ?_ ?_
    · rintro i H' hi ⟨s1, h1⟩
      have ha := s1 _ _ R.at_
      refine ⟨rfl, _, rfl, _, rfl, i, (by rw [Int.zero_add]), _, rfl, a, ws, m, rfl, rfl, SqL.of ha, by omega, hm, fun q hq => ?_⟩
      have s2 := Same.new (o := .lst (everyV ws i m)) hq
      have hq2 : (upd H' q (.lst (everyV ws i m))) q = some (.lst (everyV ws i m)) := upd_same
      generalize upd H' q (.lst (everyV ws i m)) = H2 at s2 hq2 ⊢
      have hst := every_all (R.same (s1.trans s2)).all i m
      have hlen : (strideL l i m).length = strideN l.length i m := by
        unfold strideL
        rw [List.length_map, List.length_range]
      have hpos : 1 ≤ strideN l.length i m := by
        unfold strideN
        exact Nat.div_pos (by omega) hm
      have hbig : strideN l.length i m ≤ 28 := by
        unfold strideN
        have := Nat.div_le_self (l.length - i + m - 1) m
        omega
      refine ⟨_, strideL l i m, rfl, ⟨q, _, rfl, hq2, hst⟩, fun z => ?_, by omega, fun H3 s3 => ?_⟩
      · rw [z] at hlen
        simp at hlen
        omega
      · have h3 := s3 _ _ (s2 _ _ h1)
        refine ⟨_, h3, ?_, Same.mut (s1.trans (s2.trans s3)) hD, ?_⟩
        · rw [List.length_map, List.length_map, List.length_range]
          exact small1000 (by omega)
        · rw [upd_same, List.range_succ, List.map_append, List.map_append]
          have e : (!decide (optV (Vamacb.stepOf (strideL l i m)) = V.non)) = (Vamacb.stepOf (strideL l i m)).isSome := by
            rw [optV_non]
            cases Vamacb.stepOf (strideL l i m) <;> rfl
          rw [e]
          rfl
    · rintro H' ⟨s1, h1⟩
      exact ⟨D, _, rfl, SqL.of h1, hQ H' s1⟩
/-- tail_of -/
def spTailOf : Sp := fun vs H Q _ => ∃ (l : List Deed) (a : Addr) (ws : List V) (m : Nat), vs = [.ref a, .int (m : Nat)] ∧ Rec H l a ws ∧ l.length ≤ 14 ∧ 1 ≤ m ∧ m ≤ 14 ∧ ∀ H', Same H H' → Q (.int (tailFrom l m l.length : Nat)) H'
theorem sc_tail_of : FnScope ["recording", "period", "many"] ["recording", "period"] (defScope s_tail_of) := ⟨rfl, rfl, rfl, by decide +kernel, rfl, by decide +kernel, by decide +kernel⟩
theorem ok_tail_of {P : Program} {w : World} {K : PySem.W.Frag} {mg : Str → Option Value} {base : Heap} (T : Txt K mg) : FnOk P w K mg base CX0 3 T.tail_of.f T.tail_of.fd ["recording", "period"] (spTailOf) := by
  refine T.tail_of.F.ok sc_tail_of (fun vs H Q E h => ?_) (fun cdv A outer s H vs Q E hr h => ⟨_, (pss_cons (ps_set (i := 2) sc_tail_of.nd rfl (Or.inl rfl) (pe_callB (call_lenK (K := K)) (by rfl) T.z_len PySem.boot_len (by exact (pa_cons (pv 0) pa_nil))))
    (pss_cons (ps_while PassesOwn.never (pt_not (pt_val (pe_call (ok_does_show T) (hr.mono (by decide)) rfl T.does_show.g T.does_show.k T.does_show.b .nil pass0 (by exact (pa_cons (pe_slice (sl_listK (K := K)) (pv 0) (po_some (pe_op op_sub (pe_callB (call_lenK (K := K)) (by rfl) T.z_len PySem.boot_len (by exact (pa_cons (pv 0) pa_nil))) (pv 2))) po_none) (pa_cons (pv 1) pa_nil))))))
    (pss_one (ps_set (i := 2) sc_tail_of.nd rfl (Or.inl rfl) (pe_op op_sub (pv 2) pe_int))))
    (pss_one (ps_ret (pv 2))))), ?_⟩)
  · obtain ⟨l, a, ws, m, rfl, _⟩ := h
    rfl
  · obtain ⟨l, a, ws, m, rfl, R, hfew, hm, hm2, hQ⟩ := h
    have hwl : ws.length = l.length := R.all.1.symm
    refine ⟨_, rfl, a, ws, rfl, .inl (SqL.of R.at_), ?_⟩
    rw [hwl]
    refine ⟨fun t σ H' => σ = [some (.ref a), some (.int (m : Nat)), some (.int (t : Nat))] ∧ t ≤ l.length ∧ tailFrom l m l.length = tailFrom l m t ∧ Same H H', ⟨l.length, rfl, Nat.le_refl _, rfl, Same.refl _⟩, ?_⟩
    rintro t σ H1 ⟨rfl, ht, htail, s1⟩
    have ha := s1 _ _ R.at_
    have ecut : cutV ws (some (((ws.length : Nat) : Int) - ((t : Nat) : Int))) none = ws.drop (l.length - t) := by
      rw [hwl, show ((l.length : Nat) : Int) - ((t : Nat) : Int) = ((l.length - t : Nat) : Int) by omega]
      exact cut_from (by omega)
    refine ⟨_, rfl, _, rfl, a, ws, rfl, .inl (SqL.of ha), _, rfl, _, _, rfl, rfl, _, rfl, a, ws, rfl, SqL.of ha, fun q hq => ?_⟩
    rw [ecut]
    have s2 := Same.new (o := .lst (ws.drop (l.length - t))) hq
    have hq2 : (upd H1 q (.lst (ws.drop (l.length - t)))) q = some (.lst (ws.drop (l.length - t))) := upd_same
    generalize upd H1 q (.lst (ws.drop (l.length - t))) = H2 at s2 hq2 ⊢
    have hR2 := R.same (s1.trans s2)
    refine ⟨_, rfl, l.drop (l.length - t), q, ws.drop (l.length - t), m, rfl, ⟨hq2, hR2.all.drop _⟩, by rw [List.length_drop]; omega, hm, hm2, fun H3 s3 => ⟨_, rfl, ?_⟩⟩
    cases hs : showPy (l.drop (l.length - t)) m with
    | false =>
      cases t with
      | zero =>
        have e : l.drop (l.length - 0) = [] := by rw [Nat.sub_zero, List.drop_length]
        rw [e] at hs
        have : showPy [] m = true := by
          unfold showPy
          have : Nat.min m ([] : List Deed).length = 0 := Nat.min_eq_right (Nat.zero_le _)
          rw [this]
          rfl
        rw [this] at hs
        cases hs
      | succ t =>
        refine iteT ⟨fun σ' H' => σ' = [some (.ref a), some (.int (m : Nat)), some (.int (t : Nat))] ∧ t ≤ l.length ∧ tailFrom l m l.length = tailFrom l m t ∧ Same H H', fun σ' H' h => ⟨t, by omega, h⟩, _, rfl, _, _, rfl, rfl, ?_, by omega, ?_, s1.trans (s2.trans s3)⟩
        · have e : (((t + 1 : Nat) : Int) - 1) = ((t : Nat) : Int) := by omega
          show [some (V.ref a), some (V.int (m : Nat)), some (V.int (((t + 1 : Nat) : Int) - 1))] = _
          rw [e]
        · rw [htail]
          show (if showPy (l.drop (l.length - (t + 1))) m = true then t + 1 else tailFrom l m t) = _
          rw [hs]
          exact if_neg (by decide)
    | true =>
      refine iteF ⟨_, rfl, ?_⟩
      have e : tailFrom l m l.length = t := by
        rw [htail]
        cases t with
        | zero => rfl
        | succ t => exact if_pos hs
      rw [e] at hQ
      exact hQ H3 (s1.trans (s2.trans s3))
/-- does_count -/
def spDoesCount : Sp := fun vs H Q _ => ∃ (m t : Nat), vs = [.int (m : Nat), .int (t : Nat)] ∧ m ≤ 14 ∧ t ≤ 14 ∧ Q (.bl (decide (m < t) && decide (3 * m ≤ 2 * t))) H
theorem sc_does_count : FnScope ["period", "tail"] ["period", "tail"] (defScope s_does_count) := ⟨rfl, rfl, rfl, by decide +kernel, rfl, by decide +kernel, by decide +kernel⟩
theorem ok_does_count {P : Program} {w : World} {K : PySem.W.Frag} {mg : Str → Option Value} {base : Heap} (T : Txt K mg) : FnOk P w K mg base CX0 1 T.does_count.f T.does_count.fd ["period", "tail"] (spDoesCount) := by
  refine T.does_count.F.ok sc_does_count (fun vs H Q E h => ?_) (fun cdv A outer s H vs Q E hr h => ⟨_, (pss_one (ps_ret (pe_and (pe_cmpR op_gt (pv 1) (pv 0) (nomark _)) (pe_one (pe_cmpR op_ge (pe_op op_mul pe_int (pv 1)) (pe_op op_mul pe_int (pv 0)) (nomark _)))))), ?_⟩)
  · obtain ⟨m, t, rfl, _⟩ := h
    rfl
  · obtain ⟨m, t, rfl, hm, ht, hQ⟩ := h
    refine r_ret ⟨_, rfl, _, rfl, _, _, rfl, rfl, _, rfl, ?_⟩
    by_cases h1 : m < t
    · rw [decide_eq_true h1] at hQ
      have e1 : decide (((m : Nat) : Int) < ((t : Nat) : Int)) = true := decide_eq_true (by omega)
      rw [e1]
      refine iteT ⟨_, rfl, _, _, rfl, rfl, .inl ⟨by omega, by omega⟩, _, rfl, _, _, rfl, rfl, .inl ⟨by omega, by omega⟩, _, _, rfl, rfl, ?_⟩
      have e2 : decide (3 * ((m : Nat) : Int) ≤ 2 * ((t : Nat) : Int)) = decide (3 * m ≤ 2 * t) := decide_eq_decide.mpr (by omega)
      show Q (V.bl (decide (3 * ((m : Nat) : Int) ≤ 2 * ((t : Nat) : Int)))) H
      rw [e2]
      exact hQ
    · rw [decide_eq_false h1] at hQ
      have e1 : decide (((m : Nat) : Int) < ((t : Nat) : Int)) = false := decide_eq_false (by omega)
      rw [e1]
      exact iteF hQ
/-- best_period -/
def BestV (H : Hp) : Option (Nat × Nat) → V → Prop
  | none, v => v = .non
  | some x, v => ∃ r, v = .ref r ∧ H r = some (.tup [.int (x.1 : Nat), .int (x.2 : Nat)])
theorem BestV.same {H H' : Hp} {b : Option (Nat × Nat)} {v : V} (h : BestV H b v) (e : Same H H') : BestV H' b v := by
  cases b with
  | none => exact h
  | some x => obtain ⟨r, h1, h2⟩ := h; exact ⟨r, h1, e _ _ h2⟩
def spBestPeriod : Sp := fun vs H Q _ => ∃ (l : List Deed) (a : Addr) (ws : List V), vs = [.ref a] ∧ Rec H l a ws ∧ l.length ≤ 14 ∧ ∀ H' v, Same H H' → BestV H' (bestP l (l.length - 1)) v → Q v H'
theorem sc_best_period : FnScope ["recording", "best", "period", "tail"] ["recording"] (defScope s_best_period) := ⟨rfl, rfl, rfl, by decide +kernel, rfl, by decide +kernel, by decide +kernel⟩
theorem ok_best_period {P : Program} {w : World} {K : PySem.W.Frag} {mg : Str → Option Value} {base : Heap} (T : Txt K mg) : FnOk P w K mg base CX0 4 T.best_period.f T.best_period.fd ["recording"] (spBestPeriod) := by
  refine T.best_period.F.ok sc_best_period (fun vs H Q E h => ?_) (fun cdv A outer s H vs Q E hr h => ⟨_, (pss_cons (ps_set (i := 1) sc_best_period.nd rfl (Or.inl rfl) pe_non)
    (pss_cons (ps_for PassesOwn.never rfl (pi_range2 (by rfl) T.z_range (by exact (pa_cons pe_int (pa_cons (pe_callB (call_lenK (K := K)) (by rfl) T.z_len PySem.boot_len (by exact (pa_cons (pv 0) pa_nil))) pa_nil)))) (pg_name (i := 2) sc_best_period.nd rfl (Or.inl rfl))
    (pss_cons (ps_set (i := 3) sc_best_period.nd rfl (Or.inl rfl) (pe_call (ok_tail_of T) (hr.mono (by decide)) rfl T.tail_of.g T.tail_of.k T.tail_of.b .nil pass0 (by exact (pa_cons (pv 0) (pa_cons (pv 2) pa_nil)))))
    (pss_one (ps_if (PW.pt (pw_and (pt_val (pe_call (ok_does_count T) (hr.mono (by decide)) rfl T.does_count.g T.does_count.k T.does_count.b .nil pass0 (by exact (pa_cons (pv 2) (pa_cons (pv 3) pa_nil))))) (pw_and1 (PW.pt (pw_or (pt_cmp (pc_isN (pv 1))) (pw_or1 (pt_cmpR op_gt (pv 3) (pe_ix (ix_tupK (K := K)) (pv 1) pe_int (fun _ _ => rfl)) (nomark _))))))))
    (pss_one (ps_set (i := 1) sc_best_period.nd rfl (Or.inl rfl) (pe_tup (by exact (pa_cons (pv 2) (pa_cons (pv 3) pa_nil))))))
    pss_nil))))
    (pss_one (ps_ret (pv 1))))), ?_⟩)
  · obtain ⟨l, a, ws, rfl, _⟩ := h
    rfl
  · obtain ⟨l, a, ws, rfl, R, hfew, hQ⟩ := h
    have hwl : ws.length = l.length := R.all.1.symm
    refine ⟨_, rfl, a, ws, rfl, .inl (SqL.of R.at_), 1, l.length, by rw [hwl], ⟨by omega, by omega, by omega, by omega⟩, ?_⟩
    have en : (((l.length : Nat) : Int) - 1).toNat = l.length - 1 := by omega
    rw [en]
    refine for_range (lo := 1) (n := l.length - 1) (fun i σ H' => ∃ b v w, σ = [some (.ref a), some b, v, w] ∧ Same H H' ∧ BestV H' (bestP l i) b) ⟨_, _, _, rfl, Same.refl _, rfl⟩ ?_ ?_
    · rintro i σ H1 hi ⟨b, v, w, rfl, s1, hb⟩
      refine ⟨_, rfl, _, rfl, l, a, ws, 1 + i, rfl, R.same s1, hfew, by omega, by omega, fun H2 s2 => ?_⟩
      have hb2 := hb.same s2
      have s12 := s1.trans s2
      have htl := tailFrom_le l (1 + i) l.length
      have hbp : bestP l (i + 1) = better l (bestP l i) (1 + i) := by
        unfold bestP
        rw [List.range_succ, List.foldl_append]
        rfl
      unfold better counts at hbp
      refine ⟨_, rfl, _, rfl, 1 + i, tailFrom l (1 + i) l.length, rfl, by omega, by omega, ?_⟩
      have skip : (bestP l (i + 1) = bestP l i) → ∃ b' v' w', [some (V.ref a), some b, some (V.int (1 + (i : Nat))), some (V.int (tailFrom l (1 + i) l.length : Nat))] = [some (V.ref a), some b', v', w'] ∧ Same H H2 ∧ BestV H2 (bestP l (i + 1)) b' := fun e => ⟨_, _, _, rfl, s12, by rw [e]; exact hb2⟩
      have take : bestP l (i + 1) = some (1 + i, tailFrom l (1 + i) l.length) → 2 ≤ sizeLine ∧ ∀ p, H2 p = none → ∃ b' v' w', [some (V.ref a), some (V.ref p), some (V.int (1 + (i : Nat))), some (V.int (tailFrom l (1 + i) l.length : Nat))] = [some (V.ref a), some b', v', w'] ∧ Same H (upd H2 p (.tup [.int (1 + (i : Nat)), .int (tailFrom l (1 + i) l.length : Nat)])) ∧
          BestV (upd H2 p (.tup [.int (1 + (i : Nat)), .int (tailFrom l (1 + i) l.length : Nat)])) (bestP l (i + 1)) b' := fun e =>
        ⟨by decide, fun p hp => ⟨_, _, _, rfl, s12.trans (Same.new hp), by rw [e]; exact ⟨p, rfl, upd_same⟩⟩⟩
      cases hc : (decide (1 + i < tailFrom l (1 + i) l.length) && decide (3 * (1 + i) ≤ 2 * tailFrom l (1 + i) l.length)) with
      | false =>
        rw [hc] at hbp
        exact ⟨_, rfl, iteF (iteF (skip hbp))⟩
      | true =>
        rw [hc] at hbp
        refine ⟨_, rfl, iteT ⟨_, rfl, _, rfl, ?_⟩⟩
        cases hbi : bestP l i with
        | none =>
          rw [hbi] at hbp hb2
          obtain rfl : b = .non := hb2
          exact iteT (iteT ⟨_, rfl, _, rfl, take hbp⟩)
        | some x =>
          rw [hbi] at hbp hb2
          obtain ⟨r, rfl, hr⟩ := hb2
          refine iteF ⟨_, rfl, _, rfl, r, _, 1, _, rfl, rfl, SqT.of (hr), at1, _, _, rfl, rfl, _, rfl, ?_⟩
          by_cases hlt : x.2 < tailFrom l (1 + i) l.length
          · have e1 : decide (((x.2 : Nat) : Int) < ((tailFrom l (1 + i) l.length : Nat) : Int)) = true := decide_eq_true (by omega)
            rw [e1]
            rw [if_pos (by simp [hlt])] at hbp
            exact iteT ⟨_, rfl, _, rfl, take hbp⟩
          · have e1 : decide (((x.2 : Nat) : Int) < ((tailFrom l (1 + i) l.length : Nat) : Int)) = false := decide_eq_false (by omega)
            rw [e1]
            rw [if_neg (by simp [hlt])] at hbp
            exact iteF (skip (hbp.trans hbi.symm))
    · rintro σ H1 ⟨b, v, w, rfl, s1, hb⟩
      exact ⟨_, rfl, hQ H1 b s1 hb⟩
/-- next_deed -/
def spNextDeed : Sp := fun vs H Q _ => ∃ (l : List Deed) (a : Addr) (ws : List V) (m t : Nat), vs = [.ref a, .int (m : Nat), .int (t : Nat)] ∧ Rec H l a ws ∧ l.length ≤ 14 ∧ 1 ≤ m ∧ m ≤ t ∧ t ≤ l.length ∧
  (2 * m ≤ t → hasNumber (dAt l (l.length - 2 * m)) = hasNumber (dAt l (l.length - m))) ∧ ∀ H' v, Same H H' → DeedAt H' (nextPy l m t) v → Q v H'
theorem sc_next_deed : FnScope ["recording", "period", "tail", "deed"] ["recording", "period", "tail"] (defScope s_next_deed) := ⟨rfl, rfl, rfl, by decide +kernel, rfl, by decide +kernel, by decide +kernel⟩
theorem ok_next_deed {P : Program} {w : World} {K : PySem.W.Frag} {mg : Str → Option Value} {base : Heap} (T : Txt K mg) : FnOk P w K mg base CX0 2 T.next_deed.f T.next_deed.fd ["recording", "period", "tail"] (spNextDeed) := by
  refine T.next_deed.F.ok sc_next_deed (fun vs H Q E h => ?_) (fun cdv A outer s H vs Q E hr h => ⟨_, (pss_cons (ps_set (i := 3) sc_next_deed.nd rfl (Or.inl rfl) (pe_ix (ix_listK (K := K)) (pv 0) (pe_un un_neg (pv 1)) (fun _ _ => rfl)))
    (pss_cons (ps_if (PW.pt (pw_or (pt_cmpR op_lt (pv 2) (pe_op op_mul pe_int (pv 1)) (nomark _)) (pw_or1 (pt_cmp (pc_isN (pe_ix (ix_tupK (K := K)) (pv 3) pe_int (fun _ _ => rfl)))))))
    (pss_one (ps_ret (pv 3)))
    pss_nil)
    (pss_one (ps_ret (pe_call (ok_grown T) (hr.mono (by decide)) rfl T.grown.g T.grown.k T.grown.b .nil pass0 (by exact (pa_cons (pv 3) (pa_cons (pe_op op_sub (pe_ix (ix_tupK (K := K)) (pv 3) pe_int (fun _ _ => rfl)) (pe_ix (ix_tupK (K := K)) (pe_ix (ix_listK (K := K)) (pv 0) (pe_op op_mul (pe_un un_neg pe_int) (pv 1)) (fun _ _ => rfl)) pe_int (fun _ _ => rfl))) pa_nil)))))))), ?_⟩)
  · obtain ⟨l, a, ws, m, t, rfl, _⟩ := h
    rfl
  · obtain ⟨l, a, ws, m, t, rfl, R, hfew, hm, hmt, ht, hal, hQ⟩ := h
    have hwl : ws.length = l.length := R.all.1.symm
    obtain ⟨dv, e1, e2⟩ := R.deed (i := l.length - m) (by omega)
    have hat : atI ws (-((m : Nat) : Int)) = some dv := by
      rw [at_neg hm (by omega), hwl]
      exact e1
    obtain ⟨p, rfl, hp⟩ := e2
    refine ⟨_, rfl, _, rfl, _, rfl, a, ws, _, _, rfl, rfl, SqL.of R.at_, hat, ?_⟩
    refine ⟨_, rfl, _, rfl, _, _, rfl, rfl, .inl ⟨by omega, by omega⟩, _, _, rfl, rfl, _, rfl, ?_⟩
    unfold nextPy at hQ
    generalize hA : dAt l (l.length - m) = A at hQ hal hp
    by_cases hlt : t < 2 * m
    · have ed : decide (((t : Nat) : Int) < 2 * ((m : Nat) : Int)) = true := decide_eq_true (by omega)
      rw [ed]
      rw [if_pos (Or.inl hlt)] at hQ
      exact iteT (iteT ⟨_, rfl, hQ H _ (Same.refl _) ⟨p, rfl, hp⟩⟩)
    · have ed : decide (((t : Nat) : Int) < 2 * ((m : Nat) : Int)) = false := decide_eq_false (by omega)
      rw [ed]
      refine iteF ⟨_, rfl, p, _, 2, _, rfl, rfl, SqT.of (hp), at2, _, rfl, ?_⟩
      rw [optV_non]
      cases en : numOf A with
      | none =>
        rw [if_pos (Or.inr (numOf_none en).2.1)] at hQ
        exact iteT ⟨_, rfl, hQ H _ (Same.refl _) ⟨p, rfl, hp⟩⟩
      | some v =>
        obtain ⟨n1, n2⟩ := numOf_some en
        have hb := hal (by omega)
        rw [n2] at hb
        rw [if_neg (by rintro (z | z); exact hlt z; rw [n2] at z; cases z)] at hQ
        obtain ⟨dv2, f1, f2⟩ := R.deed (i := l.length - 2 * m) (by omega)
        obtain ⟨p2, rfl, hp2⟩ := f2
        generalize dAt l (l.length - 2 * m) = B at hQ hb hp2
        obtain ⟨vb, evb⟩ : ∃ v, numOf B = some v := by
          cases e : numOf B with
          | none => rw [(numOf_none e).2.1] at hb; cases hb
          | some v => exact ⟨v, rfl⟩
        have nb := (numOf_some evb).1
        have hat2 : atI ws (-2 * ((m : Nat) : Int)) = some (.ref p2) := by
          have := at_neg (xs := ws) (m := 2 * m) (by omega) (by omega)
          rw [hwl, f1] at this
          rw [show -2 * ((m : Nat) : Int) = -((2 * m : Nat) : Int) by omega]
          exact this
        have tA : (deedV A)[2]? = some (.int v) := by show some (optV (numOf A)) = _; rw [en]; rfl
        have tB : (deedV B)[2]? = some (.int vb) := by show some (optV (numOf B)) = _; rw [evb]; rfl
        refine iteF ⟨_, rfl, _, rfl, p, _, 2, _, rfl, rfl, SqT.of hp, atI_nat (j := 2) tA, _, rfl, _, rfl, _, rfl, _, _, rfl, rfl, .inl ⟨by omega, by omega⟩, a, ws, _, _, rfl, rfl, SqL.of R.at_, hat2, p2, _, 2, _, rfl, rfl, SqT.of hp2, atI_nat (j := 2) tB, _, _, rfl, rfl, ?_⟩
        refine ⟨_, A, _, rfl, ⟨p, rfl, hp⟩, fun H' w s1 hw => hQ H' w s1 ?_⟩
        rw [n1, nb]
        rw [n1] at hw
        exact hw
end My
namespace My
open PySem PySem.Spec PyProof.Rows L2
open VamacBase (Deed Prog Table Got Fault doneBy written setHere isEnd okValue here faultNumber flatTable)
/-! ### tables -/
def tbF (r : Addr) (c : Nat) (z : Int) : List (Str × V) := [("rows", .ref r), ("cursor", .int (c : Int)), ("clip", .int z)]
section
variable {r : Addr} {c c' : Nat} {z z' : Int}
theorem tbF_rows : (tbF r c z).lookup ("rows" : Str) = some (.ref r) := by kernel_rfl
theorem tbF_cursor : (tbF r c z).lookup ("cursor" : Str) = some (.int (c : Int)) := by kernel_rfl
theorem tbF_clip : (tbF r c z).lookup ("clip" : Str) = some (.int z) := by kernel_rfl
theorem tbF_new : putF "clip" (.int z) (putF "cursor" (.int (c : Int)) (putF "rows" (.ref r) [])) = tbF r c z := by kernel_rfl
theorem tbF_cur : putF "cursor" (.int (c' : Int)) (tbF r c z) = tbF r c' z := by kernel_rfl
theorem tbF_clp : putF "clip" (.int z') (tbF r c z) = tbF r c z' := by kernel_rfl
theorem tbF_m_told : (tbF r c z).lookup ("told" : Str) = none := by kernel_rfl
theorem tbF_m_has_here : (tbF r c z).lookup ("has_here" : Str) = none := by kernel_rfl
theorem tbF_m_put : (tbF r c z).lookup ("put" : Str) = none := by kernel_rfl
theorem tbF_m_go_up : (tbF r c z).lookup ("go_up" : Str) = none := by kernel_rfl
theorem tbF_m_double : (tbF r c z).lookup ("double" : Str) = none := by kernel_rfl
theorem tbF_m_find : (tbF r c z).lookup ("find" : Str) = none := by kernel_rfl
theorem tbF_m_do : (tbF r c z).lookup ("do" : Str) = none := by kernel_rfl
theorem tbF_m_do_here : (tbF r c z).lookup ("do_here" : Str) = none := by kernel_rfl
end
/-- a row: a list of its own -/
def RowIn (G H : Hp) (r : Addr) (row : List Int) (v : V) : Prop := ∃ x, v = .ref x ∧ G x = none ∧ x ≠ r ∧ H x = some (.lst (row.map V.int))
/-- an object Table, all of it outside of G -/
structure Tab (C : Addr) (G H : Hp) (q r : Addr) (ws : List V) (t : Table) : Prop where
  obj : ∃ dx, H q = some (.ins C dx (tbF r t.at_ t.clip))
  gq : G q = none
  lst : H r = some (.lst ws)
  gr : G r = none
  rows : All2 (RowIn G H r) t.rows ws
  nd : ws.Nodup
section
variable {C : Addr} {G H H' : Hp} {q r x dx : Addr} {ws ws' : List V} {t : Table} {i c : Nat} {z : Int} {row row' : List Int}
theorem Tab.same (A : Tab C G H q r ws t) (e : Same H H') : Tab C G H' q r ws t :=
  let ⟨dx, h⟩ := A.obj
  ⟨⟨dx, e _ _ h⟩, A.gq, e _ _ A.lst, A.gr, A.rows.mono fun _ _ ⟨x, h1, h2, h3, h4⟩ => ⟨x, h1, h2, h3, e _ _ h4⟩, A.nd⟩
theorem Tab.len (A : Tab C G H q r ws t) : ws.length = t.rows.length := A.rows.1.symm
theorem Tab.fld (A : Tab C G H q r ws t) (hq : ∃ fs, H q = some (.ins C dx fs)) (c : Nat) (z : Int) : Tab C G (upd H q (.ins C dx (tbF r c z))) q r ws { t with at_ := c, clip := z } := by
  obtain ⟨fs, hq⟩ := hq
  refine ⟨⟨dx, upd_same⟩, A.gq, ?_, A.gr, A.rows.mono fun _ _ ⟨x, h1, h2, h3, h4⟩ => ⟨x, h1, h2, h3, ?_⟩, A.nd⟩
  · rw [upd_ne (ne_of A.lst hq (by intro z; cases z))]
    exact A.lst
  · rw [upd_ne (ne_of h4 hq (by intro z; cases z))]
    exact h4
theorem Tab.at_ (A : Tab C G H q r ws t) (h : t.rows[i]? = some row) : ∃ x, ws[i]? = some (.ref x) ∧ G x = none ∧ x ≠ r ∧ H x = some (.lst (row.map V.int)) := by
  obtain ⟨v, h1, x, rfl, h2, h3, h4⟩ := A.rows.get h
  exact ⟨x, h1, h2, h3, h4⟩
theorem Tab.setRow (A : Tab C G H q r ws t) (h : t.rows[i]? = some row) (hw : ws[i]? = some (.ref x)) (row' : List Int) : Tab C G (upd H x (.lst (row'.map V.int))) q r ws { t with rows := t.rows.set i row' } := by
  obtain ⟨x', h1, h2, h3, h4⟩ := A.at_ h
  rw [hw] at h1
  cases h1
  obtain ⟨dx, hq⟩ := A.obj
  refine ⟨⟨dx, ?_⟩, A.gq, ?_, A.gr, ⟨by rw [List.length_set]; exact A.rows.1, fun j a v ha hv => ?_⟩, A.nd⟩
  · rw [upd_ne (ne_of hq h4 (by intro z; cases z))]
    exact hq
  · rw [upd_ne h3.symm]
    exact A.lst
  · by_cases hj : j = i
    · subst hj
      rw [hw] at hv
      cases hv
      have hlt : j < t.rows.length := (List.getElem?_eq_some_iff.mp h).1
      rw [List.getElem?_set_self hlt] at ha
      cases ha
      exact ⟨x, rfl, h2, h3, upd_same⟩
    · rw [List.getElem?_set_ne (Ne.symm hj)] at ha
      obtain ⟨y, rfl, g2, g3, g4⟩ := A.rows.2 j a v ha hv
      have hne : y ≠ x := by
        rintro rfl
        have h5 : j < ws.length := (List.getElem?_eq_some_iff.mp hv).1
        exact hj ((List.getElem?_inj h5 A.nd).mp (hv.trans hw.symm))
      exact ⟨y, rfl, g2, g3, by rw [upd_ne hne]; exact g4⟩
theorem Tab.lists (A : Tab C G H q r ws t) {rows : List (List Int)} (h : All2 (RowIn G H r) rows ws') (n : ws'.Nodup) : Tab C G (upd H r (.lst ws')) q r ws' { t with rows := rows } := by
  obtain ⟨dx, hq⟩ := A.obj
  refine ⟨⟨dx, ?_⟩, A.gq, upd_same, A.gr, h.mono fun _ _ ⟨x, h1, h2, h3, h4⟩ => ⟨x, h1, h2, h3, by rw [upd_ne h3]; exact h4⟩, n⟩
  rw [upd_ne (ne_of hq A.lst (by intro z; cases z))]
  exact hq
end
def gotN : Got Table → Int
  | .error f => faultNumber f
  | .ok _ => 0
def gotT (t : Table) : Got Table → Table
  | .error _ => t
  | .ok t' => t'
def spTabInit (C : Addr) : Sp := fun vs H Q _ => ∃ (x dx r : Addr) (c : Nat) (z : Int), vs = [.ref x, .ref r, .int (c : Nat), .int z] ∧ H x = some (.ins C dx []) ∧
  ∀ H' : Hp, H' x = some (.ins C dx (tbF r c z)) → But x H H' → Q .non H'
theorem sc_Table_init : FnScope ["self", "rows", "cursor", "clip"] ["self", "rows", "cursor", "clip"] (defScope s_Table_init) := ⟨rfl, rfl, rfl, by decide +kernel, rfl, by decide +kernel, by decide +kernel⟩
theorem ok_Table_init {P : Program} {w : World} {K : PySem.W.Frag} {mg : Str → Option Value} {base : Heap} (T : Txt K mg) : FnOk P w K mg base CX0 1 T.Table_init.f T.Table_init.fd ["self", "rows", "cursor", "clip"] (spTabInit T.Table.C) := by
  refine T.Table_init.F.ok sc_Table_init (fun vs H Q E h => ?_) (fun cdv A outer s H vs Q E hr h => ⟨_, (pss_cons (ps_fldK (K := K) (pv 0) (pv 1) rfl)
    (pss_cons (ps_fldK (K := K) (pv 0) (pv 2) rfl)
    (pss_one (ps_fldK (K := K) (pv 0) (pv 3) rfl)))), ?_⟩)
  · obtain ⟨x, dx, r, c, z, rfl, _⟩ := h
    rfl
  · obtain ⟨x, dx, r, c, z, rfl, hx, hQ⟩ := h
    refine ⟨_, rfl, _, rfl, x, _, dx, [], rfl, hx, T.Table.cl, T.n_Table_rows, (by show 0 < 1000; decide), ?_⟩
    refine ⟨_, rfl, _, rfl, x, _, dx, _, rfl, upd_same, T.Table.cl, T.n_Table_cursor, (by show 1 < 1000; decide), ?_⟩
    refine ⟨_, rfl, _, rfl, x, _, dx, _, rfl, upd_same, T.Table.cl, T.n_Table_clip, (by show 2 < 1000; decide), ?_⟩
    exact hQ _ (by rw [← tbF_new]; exact upd_same) ((But.wr.trans But.wr).trans But.wr)
/-- has_here -/
def spHasHere (C : Addr) : Sp := fun vs H Q _ => ∃ (G : Hp) (q r : Addr) (ws : List V) (t : Table), vs = [.ref q] ∧ Tab C G H q r ws t ∧ Q (.bl (decide (t.at_ < t.rows.length))) H
theorem sc_Table_has_here : FnScope ["self"] ["self"] (defScope s_Table_has_here) := ⟨rfl, rfl, rfl, by decide +kernel, rfl, by decide +kernel, by decide +kernel⟩
theorem ok_Table_has_here {P : Program} {w : World} {K : PySem.W.Frag} {mg : Str → Option Value} {base : Heap} (T : Txt K mg) : FnOk P w K mg base CX0 1 T.Table_has_here.f T.Table_has_here.fd ["self"] (spHasHere T.Table.C) := by
  refine T.Table_has_here.F.ok sc_Table_has_here (fun vs H Q E h => ?_) (fun cdv A outer s H vs Q E hr h => ⟨_, (pss_one (ps_ret (pe_cmpR op_lt (pe_fldK (K := K) (pv 0) rfl) (pe_callB (call_lenK (K := K)) (by rfl) T.z_len PySem.boot_len (by exact (pa_cons (pe_fldK (K := K) (pv 0) rfl) pa_nil))) (nomark _)))), ?_⟩)
  · obtain ⟨G, q, r, ws, t, rfl, _⟩ := h
    rfl
  · obtain ⟨G, q, r, ws, t, rfl, A, hQ⟩ := h
    obtain ⟨dx, hq⟩ := A.obj
    refine r_ret ⟨_, rfl, q, _, dx, _, _, rfl, hq, T.Table.cl, T.n_Table_cursor, tbF_cursor, _, rfl, q, _, dx, _, _, rfl, hq, T.Table.cl, T.n_Table_rows, tbF_rows, r, ws, rfl, .inl (SqL.of A.lst), _, _, rfl, rfl, ?_⟩
    have e : decide (((t.at_ : Nat) : Int) < ((ws.length : Nat) : Int)) = decide (t.at_ < t.rows.length) := decide_eq_decide.mpr (by rw [A.len]; omega)
    show Q (.bl (decide (((t.at_ : Nat) : Int) < ((ws.length : Nat) : Int)))) H
    rw [e]
    exact hQ
/-- put -/
def spPut (C : Addr) : Sp := fun vs H Q _ => ∃ (G : Hp) (q r : Addr) (ws : List V) (t : Table) (f : Nat) (v : Int), vs = [.ref q, .int (f : Nat), .int v] ∧ Same G H ∧ Tab C G H q r ws t ∧ TabOk t ∧ f < 3 ∧ t.at_ < t.rows.length ∧
  ∀ H' ws', Same G H' → Tab C G H' q r ws' (gotT t (written t f v)) → Q (.int (gotN (written t f v))) H'
theorem okV_abs (v : Int) : decide (999 < (if v < 0 then -v else v)) = !okValue v := by
  have h := okValue_iff v
  by_cases hv : okValue v = true
  · rw [hv]
    have := h.mp hv
    refine decide_eq_false ?_
    split <;> omega
  · have e : okValue v = false := by cases hh : okValue v with
      | true => exact absurd hh hv
      | false => rfl
    rw [e]
    have : ¬ (-999 ≤ v ∧ v ≤ 999) := fun z => hv (h.mpr (by omega))
    refine decide_eq_true ?_
    split <;> omega
theorem sc_Table_put : FnScope ["self", "field", "value"] ["self", "field", "value"] (defScope s_Table_put) := ⟨rfl, rfl, rfl, by decide +kernel, rfl, by decide +kernel, by decide +kernel⟩
theorem ok_Table_put {P : Program} {w : World} {K : PySem.W.Frag} {mg : Str → Option Value} {base : Heap} (T : Txt K mg) : FnOk P w K mg base CX0 1 T.Table_put.f T.Table_put.fd ["self", "field", "value"] (spPut T.Table.C) := by
  refine T.Table_put.F.ok sc_Table_put (fun vs H Q E h => ?_) (fun cdv A outer s H vs Q E hr h => ⟨_, (pss_cons (ps_if (pt_cmpR op_gt (pe_callB call_abs (by rfl) T.z_abs (by decide +kernel) (by exact (pa_cons (pv 2) pa_nil))) (pe_cst (by rfl) T.c_MOST) (nomark _))
    (pss_one (ps_ret (pe_cst (by rfl) T.c_TOO_GREAT)))
    pss_nil)
    (pss_cons (ps_asg (pv 2) (pg_sub (pe_ix (ix_listK (K := K)) (pe_fldK (K := K) (pv 0) rfl) (pe_fldK (K := K) (pv 0) rfl) (fun _ _ => rfl)) (pv 1) set_list))
    (pss_one (ps_ret pe_int)))), ?_⟩)
  · obtain ⟨G, q, r, ws, t, f, v, rfl, _⟩ := h
    rfl
  · obtain ⟨G, q, r, ws, t, f, v, rfl, sG, A, O, hf, hat, hQ⟩ := h
    obtain ⟨dx, hq⟩ := A.obj
    have hend : isEnd t = false := decide_eq_false (by omega)
    have ew : written t f v = if okValue v = true then .ok (setHere t f v) else .error .great := by
      unfold written
      rw [hend]
      rfl
    rw [ew] at hQ
    refine ⟨_, rfl, v, rfl, _, _, rfl, rfl, _, rfl, ?_⟩
    rw [okV_abs]
    cases hv : okValue v with
    | false =>
      rw [hv] at hQ
      exact iteT (hQ H ws sG A)
    | true =>
      rw [hv] at hQ
      have hrow : t.rows[t.at_]? = some t.rows[t.at_] := List.getElem?_eq_getElem hat
      obtain ⟨x, h1, h2, h3, h4⟩ := A.at_ hrow
      have hw : (t.rows[t.at_]).length = 3 := O.wide _ (List.getElem_mem hat)
      refine iteF ⟨_, rfl, _, rfl, q, _, dx, _, _, rfl, hq, T.Table.cl, T.n_Table_rows, tbF_rows, _, rfl, q, _, dx, _, _, rfl, hq, T.Table.cl, T.n_Table_cursor, tbF_cursor, r, ws, _, _, rfl, rfl, SqL.of A.lst, atI_nat h1, _, rfl, x, _, _, f, rfl, rfl, h4, ix_nat (by rw [List.length_map]; omega), ?_⟩
      refine hQ _ ws (Same.mut sG h2) ?_
      have := A.setRow hrow h1 ((t.rows[t.at_]).set f v)
      rw [List.map_set] at this
      have e : setHere t f v = { t with rows := t.rows.set t.at_ ((t.rows[t.at_]).set f v) } := by
        unfold setHere
        rw [hrow]
      show Tab T.Table.C G _ q r ws (setHere t f v)
      rw [e]
      exact this
/-- go_up -/
def spGoUp (C : Addr) : Sp := fun vs H Q _ => ∃ (G : Hp) (q r : Addr) (ws : List V) (t : Table), vs = [.ref q] ∧ Same G H ∧ Tab C G H q r ws t ∧
  ∀ H' ws', Same G H' → Tab C G H' q r ws' (gotT t (doneBy t .up)) → Q (.int (gotN (doneBy t .up))) H'
theorem sc_Table_go_up : FnScope ["self"] ["self"] (defScope s_Table_go_up) := ⟨rfl, rfl, rfl, by decide +kernel, rfl, by decide +kernel, by decide +kernel⟩
theorem ok_Table_go_up {P : Program} {w : World} {K : PySem.W.Frag} {mg : Str → Option Value} {base : Heap} (T : Txt K mg) : FnOk P w K mg base CX0 1 T.Table_go_up.f T.Table_go_up.fd ["self"] (spGoUp T.Table.C) := by
  refine T.Table_go_up.F.ok sc_Table_go_up (fun vs H Q E h => ?_) (fun cdv A outer s H vs Q E hr h => ⟨_, (pss_cons (ps_if (pt_cmpR op_eq (pe_fldK (K := K) (pv 0) rfl) pe_int (nomark _))
    (pss_one (ps_ret (pe_cst (by rfl) T.c_AT_TOP)))
    pss_nil)
    (pss_cons (ps_fldK (K := K) (pv 0) (pe_op op_sub (pe_fldK (K := K) (pv 0) rfl) pe_int) rfl)
    (pss_one (ps_ret pe_int)))), ?_⟩)
  · obtain ⟨G, q, r, ws, t, rfl, _⟩ := h
    rfl
  · obtain ⟨G, q, r, ws, t, rfl, sG, A, hQ⟩ := h
    obtain ⟨dx, hq⟩ := A.obj
    have ew : doneBy t .up = if t.at_ = 0 then .error .first else .ok { t with at_ := t.at_ - 1 } := rfl
    rw [ew] at hQ
    refine ⟨_, rfl, q, _, dx, _, _, rfl, hq, T.Table.cl, T.n_Table_cursor, tbF_cursor, rfl, _, rfl, ?_⟩
    by_cases h0 : t.at_ = 0
    · rw [if_pos h0] at hQ
      rw [decide_eq_true (by rw [h0]; rfl)]
      exact iteT (hQ H ws sG A)
    · rw [if_neg h0] at hQ
      rw [decide_eq_false (by intro z; injection z with z; omega)]
      refine iteF ⟨_, rfl, q, _, dx, _, _, rfl, hq, T.Table.cl, T.n_Table_cursor, tbF_cursor, _, _, rfl, rfl, _, rfl, q, _, dx, _, rfl, hq, T.Table.cl, T.n_Table_cursor, (by show 3 < 1000; decide), ?_⟩
      have e : ((t.at_ : Nat) : Int) - 1 = ((t.at_ - 1 : Nat) : Int) := by omega
      refine hQ _ ws (Same.mut sG A.gq) ?_
      show Tab T.Table.C G (upd H q (.ins T.Table.C dx (putF "cursor" (.int (((t.at_ : Nat) : Int) - 1)) (tbF r t.at_ t.clip)))) q r ws { t with at_ := t.at_ - 1 }
      rw [e, tbF_cur]
      exact A.fld ⟨_, hq⟩ (t.at_ - 1) t.clip
/-- double -/
def spDouble (C : Addr) : Sp := fun vs H Q _ => ∃ (G : Hp) (q r : Addr) (ws : List V) (t : Table), vs = [.ref q] ∧ Same G H ∧ Tab C G H q r ws t ∧ TabOk t ∧ t.at_ < t.rows.length ∧
  ∀ H' ws', Same G H' → Tab C G H' q r ws' (gotT t (doneBy t .double)) → Q (.int (gotN (doneBy t .double))) H'
theorem sc_Table_double : FnScope ["self"] ["self"] (defScope s_Table_double) := ⟨rfl, rfl, rfl, by decide +kernel, rfl, by decide +kernel, by decide +kernel⟩
theorem ok_Table_double {P : Program} {w : World} {K : PySem.W.Frag} {mg : Str → Option Value} {base : Heap} (T : Txt K mg) : FnOk P w K mg base CX0 1 T.Table_double.f T.Table_double.fd ["self"] (spDouble T.Table.C) := by
  refine T.Table_double.F.ok sc_Table_double (fun vs H Q E h => ?_) (fun cdv A outer s H vs Q E hr h => ⟨_, (pss_cons (ps_if (pt_cmpR op_eq (pe_callB (call_lenK (K := K)) (by rfl) T.z_len PySem.boot_len (by exact (pa_cons (pe_fldK (K := K) (pv 0) rfl) pa_nil))) (pe_cst (by rfl) T.c_MOST_ROWS) (nomark _))
    (pss_one (ps_ret (pe_cst (by rfl) T.c_FULL_tables)))
    pss_nil)
    (pss_cons (ps_expr (pe_bm PySem.F.plainAttrs_list PySem.F.slot_list_insert PySem.F.type_list_insert mt_insert (pe_fldK (K := K) (pv 0) rfl) (by exact (pa_cons (pe_fldK (K := K) (pv 0) rfl) (pa_cons (pe_callTy (call_listK (K := K)) (by rfl) T.z_list (by decide +kernel) (by exact (pa_cons (pe_ix (ix_listK (K := K)) (pe_fldK (K := K) (pv 0) rfl) (pe_fldK (K := K) (pv 0) rfl) (fun _ _ => rfl)) pa_nil))) pa_nil)))))
    (pss_one (ps_ret pe_int)))), ?_⟩)
  · obtain ⟨G, q, r, ws, t, rfl, _⟩ := h
    rfl
  · obtain ⟨G, q, r, ws, t, rfl, sG, A, O, hat, hQ⟩ := h
    obtain ⟨dx, hq⟩ := A.obj
    have hend : isEnd t = false := decide_eq_false (by omega)
    have ew : doneBy t .double = if 8 ≤ t.rows.length then .error .full else .ok { t with rows := t.rows.take (t.at_ + 1) ++ t.rows.drop t.at_ } := by
      show (if isEnd t = true then _ else _) = _
      rw [hend]
      rfl
    rw [ew] at hQ
    have hO := O.rows
    refine ⟨_, rfl, q, _, dx, _, _, rfl, hq, T.Table.cl, T.n_Table_rows, tbF_rows, r, ws, rfl, .inl (SqL.of A.lst), rfl, _, rfl, ?_⟩
    by_cases h8 : 8 ≤ t.rows.length
    · rw [if_pos h8] at hQ
      have hl : ws.length = 8 := by rw [A.len]; omega
      rw [decide_eq_true (by rw [hl]; rfl)]
      exact iteT (hQ H ws sG A)
    · rw [if_neg h8] at hQ
      have hl : ws.length ≤ 7 := by rw [A.len]; omega
      rw [decide_eq_false (by intro z; injection z with z; omega)]
      have hrow : t.rows[t.at_]? = some t.rows[t.at_] := List.getElem?_eq_getElem hat
      obtain ⟨x, h1, h2, h3, h4⟩ := A.at_ hrow
      refine iteF ⟨_, rfl, q, _, dx, _, _, rfl, hq, T.Table.cl, T.n_Table_rows, tbF_rows, tyL A.lst, _, rfl, q, _, dx, _, _, rfl, hq, T.Table.cl, T.n_Table_cursor, tbF_cursor, _, rfl, q, _, dx, _, _, rfl, hq, T.Table.cl, T.n_Table_rows, tbF_rows, _, rfl, q, _, dx, _, _, rfl, hq, T.Table.cl, T.n_Table_cursor, tbF_cursor, r, ws, _, _, rfl, rfl, SqL.of A.lst, atI_nat h1, x, _, rfl, .inl (SqL.of h4), fun y hy => ?_⟩
      have s1 := Same.new (o := .lst ((t.rows[t.at_]).map V.int)) hy
      have A1 := A.same s1
      have hy1 : (upd H y (.lst ((t.rows[t.at_]).map V.int))) y = some (.lst ((t.rows[t.at_]).map V.int)) := upd_same
      have gy := (Dom.of sG).none hy
      have hyr : y ≠ r := fun z => by rw [z, A.lst] at hy; cases hy
      have hyw : V.ref y ∉ ws := fun z => by
        obtain ⟨j, hj⟩ := List.mem_iff_getElem?.mp z
        obtain ⟨_, _, u, e, _, _, hu⟩ := A.rows.getV hj
        cases e
        rw [hy] at hu
        cases hu
      generalize upd H y (.lst ((t.rows[t.at_]).map V.int)) = H1 at s1 A1 hy1 ⊢
      refine ⟨r, ws, _, _, rfl, rfl, A1.lst, small1000 (by omega), by omega, by have := hat; omega, ?_⟩
      rw [Int.toNat_natCast]
      refine hQ _ (ws.take t.at_ ++ [V.ref y] ++ ws.drop t.at_) (Same.mut (sG.trans s1) A.gr) ?_
      have ed : t.rows.take (t.at_ + 1) ++ t.rows.drop t.at_ = t.rows.take t.at_ ++ [t.rows[t.at_]] ++ t.rows.drop t.at_ := by rw [take_one hrow]
      show Tab T.Table.C G _ q r _ { t with rows := t.rows.take (t.at_ + 1) ++ t.rows.drop t.at_ }
      rw [ed]
      refine A1.lists (((A1.rows.take _).append (All2.one ⟨y, rfl, gy, hyr, hy1⟩)).append (A1.rows.drop _)) ?_
      rw [List.append_assoc, List.singleton_append]
      have hnd := A.nd
      rw [← List.take_append_drop t.at_ ws] at hnd hyw
      obtain ⟨n1, n2, n3⟩ := List.nodup_append.mp hnd
      refine List.nodup_append.mpr ⟨n1, List.nodup_cons.mpr ⟨fun z => hyw (List.mem_append_right _ z), n2⟩, fun a ha b hb => ?_⟩
      rcases List.mem_cons.mp hb with rfl | hb
      · intro z
        exact hyw (List.mem_append_left _ (z ▸ ha))
      · exact n3 a ha b hb
/-- find -/
theorem find_none {n : Nat} {p : Nat → Bool} (h : ∀ i, i < n → p i = false) : (List.range n).find? p = none := by
  rw [List.find?_eq_none]
  intro i hi
  rw [h i (List.mem_range.mp hi)]
  decide
theorem find_some {n i : Nat} {p : Nat → Bool} (hi : i < n) (hp : p i = true) (h : ∀ j, j < i → p j = false) : (List.range n).find? p = some i := by
  induction n with
  | zero => omega
  | succ n ih =>
    rw [List.range_succ, List.find?_append]
    by_cases hn : i < n
    · rw [ih hn]
      rfl
    · have : i = n := by omega
      subst this
      rw [find_none h]
      simp [hp]
def spFind (C : Addr) : Sp := fun vs H Q _ => ∃ (G : Hp) (q r : Addr) (ws : List V) (t : Table) (f : Nat) (v : Int), vs = [.ref q, .int (f : Nat), .int v] ∧ Same G H ∧ Tab C G H q r ws t ∧ TabOk t ∧ f < 3 ∧
  ∀ H' ws', Same G H' → Tab C G H' q r ws' (gotT t (doneBy t (.find f v))) → Q (.int (gotN (doneBy t (.find f v)))) H'
theorem sc_Table_find : FnScope ["self", "field", "number", "place"] ["self", "field", "number"] (defScope s_Table_find) := ⟨rfl, rfl, rfl, by decide +kernel, rfl, by decide +kernel, by decide +kernel⟩
theorem ok_Table_find {P : Program} {w : World} {K : PySem.W.Frag} {mg : Str → Option Value} {base : Heap} (T : Txt K mg) : FnOk P w K mg base CX0 1 T.Table_find.f T.Table_find.fd ["self", "field", "number"] (spFind T.Table.C) := by
  refine T.Table_find.F.ok sc_Table_find (fun vs H Q E h => ?_) (fun cdv A outer s H vs Q E hr h => ⟨_, (pss_cons (ps_for PassesOwn.never rfl (pi_range2 (by rfl) T.z_range (by exact (pa_cons (pe_op op_add (pe_fldK (K := K) (pv 0) rfl) pe_int) (pa_cons (pe_callB (call_lenK (K := K)) (by rfl) T.z_len PySem.boot_len (by exact (pa_cons (pe_fldK (K := K) (pv 0) rfl) pa_nil))) pa_nil)))) (pg_name (i := 3) sc_Table_find.nd rfl (Or.inl rfl))
    (pss_one (ps_if (pt_cmpR op_eq (pe_ix (ix_listK (K := K)) (pe_ix (ix_listK (K := K)) (pe_fldK (K := K) (pv 0) rfl) (pv 3) (fun _ _ => rfl)) (pv 1) (fun _ _ => rfl)) (pv 2) (nomark _))
    (pss_cons (ps_fldK (K := K) (pv 0) (pv 3) rfl)
    (pss_one (ps_ret pe_int)))
    pss_nil)))
    (pss_one (ps_ret (pe_cst (by rfl) T.c_NONE_FOUND)))), ?_⟩)
  · obtain ⟨G, q, r, ws, t, f, v, rfl, _⟩ := h
    rfl
  · obtain ⟨G, q, r, ws, t, f, v, rfl, sG, A, O, hf, hQ⟩ := h
    obtain ⟨dx, hq⟩ := A.obj
    have hO := O.rows
    have hO2 := O.at_
    have ew : doneBy t (.find f v) = match (List.range t.rows.length).find? (fun i => decide (t.at_ < i) && ((t.rows[i]?).any fun r => r[f]? == some v)) with
      | none => .error .missing
      | some i => .ok { t with at_ := i } := rfl
    have hsm : ∀ i, i ≤ t.at_ → (fun i => decide (t.at_ < i) && ((t.rows[i]?).any fun r => r[f]? == some v)) i = false := fun i hi => by
      show (decide (t.at_ < i) && _) = false
      rw [decide_eq_false (by omega)]
      rfl
    have hbig : ∀ i, t.at_ < i → ∀ (row : List Int) (z : Int), t.rows[i]? = some row → row[f]? = some z → (fun i => decide (t.at_ < i) && ((t.rows[i]?).any fun r => r[f]? == some v)) i = (z == v) := fun i hi row z h1 h2 => by
      show (decide (t.at_ < i) && ((t.rows[i]?).any fun r => r[f]? == some v)) = _
      rw [decide_eq_true hi, h1, Bool.true_and]
      show (row[f]? == some v) = _
      rw [h2]
      rfl
    generalize (fun i => decide (t.at_ < i) && ((t.rows[i]?).any fun r => r[f]? == some v)) = p at ew hsm hbig
    refine ⟨_, rfl, q, _, dx, _, _, rfl, hq, T.Table.cl, T.n_Table_cursor, tbF_cursor, _, _, rfl, rfl, _, rfl, q, _, dx, _, _, rfl, hq, T.Table.cl, T.n_Table_rows, tbF_rows, r, ws, rfl, .inl (SqL.of A.lst), _, t.rows.length, by rw [A.len], ⟨by omega, by omega, by omega, by omega⟩, ?_⟩
    have en : (((t.rows.length : Nat) : Int) - (((t.at_ : Nat) : Int) + 1)).toNat = t.rows.length - (t.at_ + 1) := by omega
    rw [en]
    refine for_range (lo := ((t.at_ : Nat) : Int) + 1) (n := t.rows.length - (t.at_ + 1)) (fun j σ H' => (∃ u, σ = [some (.ref q), some (.int (f : Nat)), some (.int v), u]) ∧ H' = H ∧ ∀ i, i < t.at_ + 1 + j → p i = false) ⟨⟨_, rfl⟩, rfl, fun i hi => hsm i (by omega)⟩ ?_ ?_
    · rintro j σ H' hj ⟨⟨u, rfl⟩, rfl, hno⟩
      have hi : t.at_ + 1 + j < t.rows.length := by omega
      have hrow : t.rows[t.at_ + 1 + j]? = some t.rows[t.at_ + 1 + j] := List.getElem?_eq_getElem hi
      obtain ⟨x, h1, h2, h3, h4⟩ := A.at_ hrow
      have hw : (t.rows[t.at_ + 1 + j]).length = 3 := O.wide _ (List.getElem_mem hi)
      have hcell : (t.rows[t.at_ + 1 + j])[f]? = some (t.rows[t.at_ + 1 + j])[f] := List.getElem?_eq_getElem (by omega)
      have hp := hbig (t.at_ + 1 + j) (by omega) _ _ hrow hcell
      have ei : ((t.at_ : Nat) : Int) + 1 + ((j : Nat) : Int) = ((t.at_ + 1 + j : Nat) : Int) := by omega
      rw [ei]
      refine ⟨_, rfl, q, _, dx, _, _, rfl, hq, T.Table.cl, T.n_Table_rows, tbF_rows, _, rfl, r, ws, _, _, rfl, rfl, SqL.of A.lst, atI_nat h1, _, rfl, x, _, _, _, rfl, rfl, SqL.of h4, atI_nat (by rw [List.getElem?_map, hcell]; rfl), _, rfl, rfl, _, rfl, ?_⟩
      have ed : decide (V.int (t.rows[t.at_ + 1 + j])[f] = V.int v) = ((t.rows[t.at_ + 1 + j])[f] == v) := dec_int
      rw [ed, ← hp]
      cases hpv : p (t.at_ + 1 + j) with
      | true =>
        refine iteT ⟨_, rfl, _, rfl, q, _, dx, _, rfl, hq, T.Table.cl, T.n_Table_cursor, (by show 3 < 1000; decide), ?_⟩
        rw [ew, find_some hi hpv fun i hi => hno i hi] at hQ
        refine hQ _ ws (Same.mut sG A.gq) ?_
        rw [tbF_cur]
        exact A.fld ⟨_, hq⟩ (t.at_ + 1 + j) t.clip
      | false =>
        refine iteF ⟨⟨_, rfl⟩, rfl, fun i hi => ?_⟩
        by_cases e : i = t.at_ + 1 + j
        · rw [e]
          exact hpv
        · exact hno i (by omega)
    · rintro σ H' ⟨⟨u, rfl⟩, rfl, hno⟩
      rw [ew, find_none fun i hi => hno i (by omega)] at hQ
      exact hQ H' ws sG A
end My
namespace My
open PySem PySem.Spec PyProof.Rows L2
open VamacBase (Deed Prog Table Got Fault doneBy written setHere isEnd okValue here faultNumber flatTable Reader readTimes readTable whole)
theorem All2.erase {A : Type} {R : A → V → Prop} {as : List A} {vs : List V} (h : All2 R as vs) (i : Nat) : All2 R (as.eraseIdx i) (vs.eraseIdx i) := by
  rw [List.eraseIdx_eq_take_drop_succ, List.eraseIdx_eq_take_drop_succ]
  exact (h.take i).append (h.drop (i + 1))
theorem okF_lt {d : Deed} {f : Nat} (h : okF d = true) (e : fldOf d = some (f : Int)) : f < 3 := by
  unfold okF at h
  rw [e] at h
  have := of_decide_eq_true h
  omega
/-- do_here -/
def spDoHere (C : Addr) : Sp := fun vs H Q _ => ∃ (G : Hp) (q r : Addr) (ws : List V) (t : Table) (dv : V) (d : Deed), vs = [.ref q, dv] ∧ Same G H ∧ DeedAt G d dv ∧ Tab C G H q r ws t ∧ TabOk t ∧ okF d = true ∧ t.at_ < t.rows.length ∧ (kindOf d ≠ 1 ∧ kindOf d ≠ 2 ∧ kindOf d ≠ 9) ∧
  ∀ H' ws', Same G H' → Tab C G H' q r ws' (gotT t (doneBy t d)) → Q (.int (gotN (doneBy t d))) H'
theorem sc_Table_do_here : FnScope ["self", "deed", "sort", "field", "number", "row"] ["self", "deed"] (defScope s_Table_do_here) := ⟨rfl, rfl, rfl, by decide +kernel, rfl, by decide +kernel, by decide +kernel⟩
theorem ok_Table_do_here {P : Program} {w : World} {K : PySem.W.Frag} {mg : Str → Option Value} {base : Heap} (T : Txt K mg) : FnOk P w K mg base CX0 2 T.Table_do_here.f T.Table_do_here.fd ["self", "deed"] (spDoHere T.Table.C) := by
  refine T.Table_do_here.F.ok sc_Table_do_here (fun vs H Q E h => ?_) (fun cdv A outer s H vs Q E hr h => ⟨_, (pss_cons (ps_asg (pv 1) (pg_tupK (K := K) (n := 3) (by rfl) (pgs_cons (pg_name (i := 2) sc_Table_do_here.nd rfl (Or.inl rfl)) (pgs_cons (pg_name (i := 3) sc_Table_do_here.nd rfl (Or.inl rfl)) (pgs_cons (pg_name (i := 4) sc_Table_do_here.nd rfl (Or.inl rfl)) pgs_nil)))))
    (pss_cons (ps_set (i := 5) sc_Table_do_here.nd rfl (Or.inl rfl) (pe_ix (ix_listK (K := K)) (pe_fldK (K := K) (pv 0) rfl) (pe_fldK (K := K) (pv 0) rfl) (fun _ _ => rfl)))
    (pss_cons (ps_if (pt_cmpR op_eq (pv 2) (pe_cst (by rfl) T.c_WRITE) (nomark _))
    (pss_one (ps_ret (pe_meth (pv 0) T.Table.cl T.Table_put.m (ok_Table_put T) (hr.mono (by decide)) T.Table_put.b .nil pass0 (by exact (pa_cons (pv 3) (pa_cons (pv 4) pa_nil))))))
    pss_nil)
    (pss_cons (ps_if (pt_cmpR op_eq (pv 2) (pe_cst (by rfl) T.c_ADD) (nomark _))
    (pss_one (ps_ret (pe_meth (pv 0) T.Table.cl T.Table_put.m (ok_Table_put T) (hr.mono (by decide)) T.Table_put.b .nil pass0 (by exact (pa_cons (pv 3) (pa_cons (pe_op op_add (pe_ix (ix_listK (K := K)) (pv 5) (pv 3) (fun _ _ => rfl)) (pv 4)) pa_nil))))))
    pss_nil)
    (pss_cons (ps_if (pt_cmpR op_eq (pv 2) (pe_cst (by rfl) T.c_PASTE) (nomark _))
    (pss_one (ps_ret (pe_meth (pv 0) T.Table.cl T.Table_put.m (ok_Table_put T) (hr.mono (by decide)) T.Table_put.b .nil pass0 (by exact (pa_cons (pv 3) (pa_cons (pe_fldK (K := K) (pv 0) rfl) pa_nil))))))
    pss_nil)
    (pss_cons (ps_if (pt_cmpR op_eq (pv 2) (pe_cst (by rfl) T.c_DOUBLE) (nomark _))
    (pss_one (ps_ret (pe_meth0 (pv 0) T.Table.cl T.Table_double.m (ok_Table_double T) (hr.mono (by decide)) T.Table_double.b .nil pass0)))
    pss_nil)
    (pss_cons (ps_if (pt_cmpR op_eq (pv 2) (pe_cst (by rfl) T.c_DOWN) (nomark _))
    (pss_one (ps_fldK (K := K) (pv 0) (pe_op op_add (pe_fldK (K := K) (pv 0) rfl) pe_int) rfl))
    pss_nil)
    (pss_cons (ps_if (pt_cmpR op_eq (pv 2) (pe_cst (by rfl) T.c_COPY) (nomark _))
    (pss_one (ps_fldK (K := K) (pv 0) (pe_ix (ix_listK (K := K)) (pv 5) (pv 3) (fun _ _ => rfl)) rfl))
    pss_nil)
    (pss_cons (ps_if (pt_cmpR op_eq (pv 2) (pe_cst (by rfl) T.c_DELETE) (nomark _))
    (pss_one (ps_expr (pe_bm PySem.F.plainAttrs_list PySem.F.slot_list_pop PySem.F.type_list_pop mt_popAt (pe_fldK (K := K) (pv 0) rfl) (by exact (pa_cons (pe_fldK (K := K) (pv 0) rfl) pa_nil)))))
    pss_nil)
    (pss_one (ps_ret pe_int))))))))))), ?_⟩)
  · obtain ⟨G, q, r, ws, t, dv, d, rfl, _⟩ := h
    rfl
  · obtain ⟨G, q, r, ws, t, dv, d, rfl, sG, ⟨p, rfl, hp⟩, A, O, hok, hat, hk, hQ⟩ := h
    obtain ⟨dx, hq⟩ := A.obj
    have hend : isEnd t = false := decide_eq_false (by omega)
    have hrow : t.rows[t.at_]? = some t.rows[t.at_] := List.getElem?_eq_getElem hat
    obtain ⟨x, h1, h2, h3, h4⟩ := A.at_ hrow
    have hw : (t.rows[t.at_]).length = 3 := O.wide _ (List.getElem_mem hat)
    have hcell : ∀ f, f < 3 → ∃ z, (t.rows[t.at_])[f]? = some z ∧ here t f = some z ∧ atI ((t.rows[t.at_]).map V.int) ((f : Nat) : Int) = some (.int z) := fun f hf => by
      refine ⟨(t.rows[t.at_])[f], List.getElem?_eq_getElem (by omega), ?_, atI_nat ?_⟩
      · unfold here
        rw [hrow]
        exact List.getElem?_eq_getElem (by omega)
      · rw [List.getElem?_map, List.getElem?_eq_getElem (by omega)]
        rfl
    refine ⟨_, rfl, p, deedV d, rfl, SqT.of (sG _ _ hp), rfl, _, _, rfl, _, _, rfl, _, _, rfl, rfl, ?_⟩
    refine ⟨_, rfl, q, _, dx, _, _, rfl, hq, T.Table.cl, T.n_Table_rows, tbF_rows, _, rfl, q, _, dx, _, _, rfl, hq, T.Table.cl, T.n_Table_cursor, tbF_cursor, r, ws, _, _, rfl, rfl, SqL.of A.lst, atI_nat h1, ?_⟩
    cases d with
    | up => exact absurd rfl hk.1
    | top => exact absurd rfl hk.2.1
    | find f v => exact absurd rfl hk.2.2
    | write f v =>
      exact ⟨_, rfl, rfl, _, rfl, iteT ⟨_, rfl, q, dx, _, rfl, hq, tbF_m_put, _, rfl, _, rfl, G, q, r, ws, t, f, v, rfl, sG, A, O, okF_lt hok rfl, hat, hQ⟩⟩
    | add f v =>
      have hf := okF_lt hok rfl
      obtain ⟨z, c1, c2, c3⟩ := hcell f hf
      have e : doneBy t (.add f v) = written t f (z + v) := by
        show written t f ((here t f).getD 0 + v) = _
        rw [c2]
        rfl
      rw [e] at hQ
      refine ⟨_, rfl, rfl, _, rfl, iteF ⟨_, rfl, rfl, _, rfl, iteT ⟨_, rfl, q, dx, _, rfl, hq, tbF_m_put, _, rfl, _, rfl, _, rfl, x, _, _, _, rfl, rfl, SqL.of h4, c3, _, rfl, _, _, rfl, rfl, ?_⟩⟩⟩
      exact ⟨G, q, r, ws, t, f, z + v, rfl, sG, A, O, hf, hat, hQ⟩
    | paste f =>
      refine ⟨_, rfl, rfl, _, rfl, iteF ⟨_, rfl, rfl, _, rfl, iteF ⟨_, rfl, rfl, _, rfl, iteT ⟨_, rfl, q, dx, _, rfl, hq, tbF_m_put, _, rfl, _, rfl, q, _, dx, _, _, rfl, hq, T.Table.cl, T.n_Table_clip, tbF_clip, ?_⟩⟩⟩⟩
      exact ⟨G, q, r, ws, t, f, t.clip, rfl, sG, A, O, okF_lt hok rfl, hat, hQ⟩
    | double =>
      refine ⟨_, rfl, rfl, _, rfl, iteF ⟨_, rfl, rfl, _, rfl, iteF ⟨_, rfl, rfl, _, rfl, iteF ⟨_, rfl, rfl, _, rfl, iteT ⟨_, rfl, q, dx, _, rfl, hq, tbF_m_double, ?_⟩⟩⟩⟩⟩
      exact ⟨G, q, r, ws, t, rfl, sG, A, O, hat, hQ⟩
    | down =>
      have e : doneBy t .down = .ok { t with at_ := t.at_ + 1 } := by
        show (if isEnd t = true then _ else _) = _
        rw [hend]
        rfl
      rw [e] at hQ
      refine ⟨_, rfl, rfl, _, rfl, iteF ⟨_, rfl, rfl, _, rfl, iteF ⟨_, rfl, rfl, _, rfl, iteF ⟨_, rfl, rfl, _, rfl, iteF ⟨_, rfl, rfl, _, rfl, iteT ⟨_, rfl, q, _, dx, _, _, rfl, hq, T.Table.cl, T.n_Table_cursor, tbF_cursor, _, _, rfl, rfl, _, rfl, q, _, dx, _, rfl, hq, T.Table.cl, T.n_Table_cursor, (by show 3 < 1000; decide), ?_⟩⟩⟩⟩⟩⟩
      have ec : putF "cursor" (.int (((t.at_ : Nat) : Int) + 1)) (tbF r t.at_ t.clip) = tbF r (t.at_ + 1) t.clip := tbF_cur (c' := t.at_ + 1)
      rw [ec]
      exact ⟨_, rfl, rfl, _, rfl, iteF ⟨_, rfl, rfl, _, rfl, iteF (hQ _ ws (Same.mut sG A.gq) (A.fld ⟨_, hq⟩ (t.at_ + 1) t.clip))⟩⟩
    | copy f =>
      obtain ⟨z, c1, c2, c3⟩ := hcell f (okF_lt hok rfl)
      have e : doneBy t (.copy f) = .ok { t with clip := z } := by
        show (match here t f with
          | none => Except.error Fault.norow
          | some v => .ok { t with clip := v }) = _
        rw [c2]
      rw [e] at hQ
      refine ⟨_, rfl, rfl, _, rfl, iteF ⟨_, rfl, rfl, _, rfl, iteF ⟨_, rfl, rfl, _, rfl, iteF ⟨_, rfl, rfl, _, rfl, iteF ⟨_, rfl, rfl, _, rfl, iteF ⟨_, rfl, rfl, _, rfl, iteT ⟨_, rfl, _, rfl, x, _, _, _, rfl, rfl, SqL.of h4, c3, _, rfl, q, _, dx, _, rfl, hq, T.Table.cl, T.n_Table_clip, (by show 3 < 1000; decide), ?_⟩⟩⟩⟩⟩⟩⟩
      rw [tbF_clp]
      exact ⟨_, rfl, rfl, _, rfl, iteF (hQ _ ws (Same.mut sG A.gq) (A.fld ⟨_, hq⟩ t.at_ z))⟩
    | delete =>
      have e : doneBy t .delete = .ok { t with rows := t.rows.eraseIdx t.at_ } := by
        show (if isEnd t = true then _ else _) = _
        rw [hend]
        rfl
      rw [e] at hQ
      have hO := O.rows
      refine ⟨_, rfl, rfl, _, rfl, iteF ⟨_, rfl, rfl, _, rfl, iteF ⟨_, rfl, rfl, _, rfl, iteF ⟨_, rfl, rfl, _, rfl, iteF ⟨_, rfl, rfl, _, rfl, iteF ⟨_, rfl, rfl, _, rfl, iteF ⟨_, rfl, rfl, _, rfl, iteT ⟨_, rfl, q, _, dx, _, _, rfl, hq, T.Table.cl, T.n_Table_rows, tbF_rows, tyL A.lst, _, rfl, q, _, dx, _, _, rfl, hq, T.Table.cl, T.n_Table_cursor, tbF_cursor, r, ws, _, t.at_, _, rfl, rfl, A.lst, by omega, by omega, (ixN_seq (ix_nat (by rw [A.len]; exact hat))).1, h1, ?_⟩⟩⟩⟩⟩⟩⟩⟩
      exact hQ _ _ (Same.mut sG A.gr) (A.lists (A.rows.erase _) (List.Nodup.sublist (List.eraseIdx_sublist ..) A.nd))
theorem done_end {t : Table} {d : Deed} (h : t.rows.length ≤ t.at_) (hk : kindOf d ≠ 1 ∧ kindOf d ≠ 2 ∧ kindOf d ≠ 9) : doneBy t d = .error .norow := by
  have hend : isEnd t = true := decide_eq_true h
  have hw : ∀ f v, written t f v = .error .norow := fun f v => by
    unfold written
    rw [hend]
    rfl
  cases d with
  | up => exact absurd rfl hk.1
  | top => exact absurd rfl hk.2.1
  | find f v => exact absurd rfl hk.2.2
  | write f v => exact hw _ _
  | add f v => exact hw _ _
  | paste f => exact hw _ _
  | down =>
    show (if isEnd t = true then _ else _) = _
    rw [hend]
    rfl
  | delete =>
    show (if isEnd t = true then _ else _) = _
    rw [hend]
    rfl
  | double =>
    show (if isEnd t = true then _ else _) = _
    rw [hend]
    rfl
  | copy f =>
    have : here t f = none := by
      unfold here
      rw [List.getElem?_eq_none h]
      rfl
    show (match here t f with
      | none => Except.error Fault.norow
      | some v => .ok { t with clip := v }) = _
    rw [this]
/-- do -/
def spDo (C : Addr) : Sp := fun vs H Q _ => ∃ (G : Hp) (q r : Addr) (ws : List V) (t : Table) (dv : V) (d : Deed), vs = [.ref q, dv] ∧ Same G H ∧ DeedAt G d dv ∧ Tab C G H q r ws t ∧ TabOk t ∧ okF d = true ∧
  ∀ H' ws', Same G H' → Tab C G H' q r ws' (gotT t (doneBy t d)) → Q (.int (gotN (doneBy t d))) H'
theorem sc_Table_do : FnScope ["self", "deed", "sort", "field", "number"] ["self", "deed"] (defScope s_Table_do) := ⟨rfl, rfl, rfl, by decide +kernel, rfl, by decide +kernel, by decide +kernel⟩
theorem ok_Table_do {P : Program} {w : World} {K : PySem.W.Frag} {mg : Str → Option Value} {base : Heap} (T : Txt K mg) : FnOk P w K mg base CX0 3 T.Table_do.f T.Table_do.fd ["self", "deed"] (spDo T.Table.C) := by
  refine T.Table_do.F.ok sc_Table_do (fun vs H Q E h => ?_) (fun cdv A outer s H vs Q E hr h => ⟨_, (pss_cons (ps_asg (pv 1) (pg_tupK (K := K) (n := 3) (by rfl) (pgs_cons (pg_name (i := 2) sc_Table_do.nd rfl (Or.inl rfl)) (pgs_cons (pg_name (i := 3) sc_Table_do.nd rfl (Or.inl rfl)) (pgs_cons (pg_name (i := 4) sc_Table_do.nd rfl (Or.inl rfl)) pgs_nil)))))
    (pss_cons (ps_if (pt_cmpR op_eq (pv 2) (pe_cst (by rfl) T.c_UP) (nomark _))
    (pss_one (ps_ret (pe_meth0 (pv 0) T.Table.cl T.Table_go_up.m (ok_Table_go_up T) (hr.mono (by decide)) T.Table_go_up.b .nil pass0)))
    pss_nil)
    (pss_cons (ps_if (pt_cmpR op_eq (pv 2) (pe_cst (by rfl) T.c_TOP) (nomark _))
    (pss_cons (ps_fldK (K := K) (pv 0) pe_int rfl)
    (pss_one (ps_ret pe_int)))
    pss_nil)
    (pss_cons (ps_if (pt_cmpR op_eq (pv 2) (pe_cst (by rfl) T.c_FIND) (nomark _))
    (pss_one (ps_ret (pe_meth (pv 0) T.Table.cl T.Table_find.m (ok_Table_find T) (hr.mono (by decide)) T.Table_find.b .nil pass0 (by exact (pa_cons (pv 3) (pa_cons (pv 4) pa_nil))))))
    pss_nil)
    (pss_one (ps_ret (pe_ifExp (pt_val (pe_meth0 (pv 0) T.Table.cl T.Table_has_here.m (ok_Table_has_here T) (hr.mono (by decide)) T.Table_has_here.b .nil pass0)) (pe_meth (pv 0) T.Table.cl T.Table_do_here.m (ok_Table_do_here T) (hr.mono (by decide)) T.Table_do_here.b .nil pass0 (by exact (pa_cons (pv 1) pa_nil))) (pe_cst (by rfl) T.c_NO_ROW)))))))), ?_⟩)
  · obtain ⟨G, q, r, ws, t, dv, d, rfl, _⟩ := h
    rfl
  · obtain ⟨G, q, r, ws, t, dv, d, rfl, sG, hd, A, O, hok, hQ⟩ := h
    obtain ⟨p, rfl, hp⟩ := id hd
    obtain ⟨dx, hq⟩ := A.obj
    refine ⟨_, rfl, p, deedV d, rfl, SqT.of (sG _ _ hp), rfl, _, _, rfl, _, _, rfl, _, _, rfl, rfl, ?_⟩
    by_cases hk : kindOf d ≠ 1 ∧ kindOf d ≠ 2 ∧ kindOf d ≠ 9
    · refine ⟨_, rfl, rfl, _, rfl, ?_⟩
      rw [decide_eq_false (by intro z; injection z with z; exact hk.1 z)]
      refine iteF ⟨_, rfl, rfl, _, rfl, ?_⟩
      rw [decide_eq_false (by intro z; injection z with z; exact hk.2.1 z)]
      refine iteF ⟨_, rfl, rfl, _, rfl, ?_⟩
      rw [decide_eq_false (by intro z; injection z with z; exact hk.2.2 z)]
      refine iteF ⟨_, rfl, q, dx, _, rfl, hq, tbF_m_has_here, G, q, r, ws, t, rfl, A, _, rfl, ?_⟩
      by_cases hat : t.at_ < t.rows.length
      · rw [decide_eq_true hat]
        exact iteT ⟨_, rfl, q, dx, _, rfl, hq, tbF_m_do_here, _, rfl, G, q, r, ws, t, .ref p, d, rfl, sG, hd, A, O, hok, hat, hk, hQ⟩
      · rw [decide_eq_false hat]
        rw [done_end (by omega) hk] at hQ
        exact iteF (hQ H ws sG A)
    · cases d with
      | up => exact ⟨_, rfl, rfl, _, rfl, iteT ⟨_, rfl, q, dx, _, rfl, hq, tbF_m_go_up, G, q, r, ws, t, rfl, sG, A, hQ⟩⟩
      | top =>
        refine ⟨_, rfl, rfl, _, rfl, iteF ⟨_, rfl, rfl, _, rfl, iteT ⟨_, rfl, q, _, dx, _, rfl, hq, T.Table.cl, T.n_Table_cursor, (by show 3 < 1000; decide), ?_⟩⟩⟩
        have ec : putF "cursor" (.int 0) (tbF r t.at_ t.clip) = tbF r 0 t.clip := tbF_cur (c' := 0)
        rw [ec]
        exact hQ _ ws (Same.mut sG A.gq) (A.fld ⟨_, hq⟩ 0 t.clip)
      | find f v => exact ⟨_, rfl, rfl, _, rfl, iteF ⟨_, rfl, rfl, _, rfl, iteF ⟨_, rfl, rfl, _, rfl, iteT ⟨_, rfl, q, dx, _, rfl, hq, tbF_m_find, _, rfl, _, rfl, G, q, r, ws, t, f, v, rfl, sG, A, O, okF_lt hok rfl, hQ⟩⟩⟩⟩
      | write f v => exact absurd (show (3 : Int) ≠ 1 ∧ (3 : Int) ≠ 2 ∧ (3 : Int) ≠ 9 by decide) hk
      | add f v => exact absurd (show (4 : Int) ≠ 1 ∧ (4 : Int) ≠ 2 ∧ (4 : Int) ≠ 9 by decide) hk
      | paste f => exact absurd (show (6 : Int) ≠ 1 ∧ (6 : Int) ≠ 2 ∧ (6 : Int) ≠ 9 by decide) hk
      | copy f => exact absurd (show (5 : Int) ≠ 1 ∧ (5 : Int) ≠ 2 ∧ (5 : Int) ≠ 9 by decide) hk
      | down => exact absurd (show (0 : Int) ≠ 1 ∧ (0 : Int) ≠ 2 ∧ (0 : Int) ≠ 9 by decide) hk
      | delete => exact absurd (show (7 : Int) ≠ 1 ∧ (7 : Int) ≠ 2 ∧ (7 : Int) ≠ 9 by decide) hk
      | double => exact absurd (show (8 : Int) ≠ 1 ∧ (8 : Int) ≠ 2 ∧ (8 : Int) ≠ 9 by decide) hk
/-- told -/
def spTold (C : Addr) : Sp := fun vs H Q _ => ∃ (G : Hp) (q r : Addr) (ws : List V) (t : Table), vs = [.ref q] ∧ Tab C G H q r ws t ∧ TabOk t ∧ ∀ H' L, Same H H' → H L = none → H' L = some (.lst ((flatTable t).map V.int)) → Q (.ref L) H'
theorem flat_len : ∀ rows : List (List Int), (∀ r ∈ rows, r.length = 3) → rows.flatten.length = 3 * rows.length
  | [], _ => rfl
  | r :: rows, h => by
    rw [List.flatten_cons, List.length_append, h r (by simp), flat_len rows fun x hx => h x (List.mem_cons_of_mem _ hx), List.length_cons]
    omega
theorem sc_Table_told : FnScope ["self", "found", "row"] ["self"] (defScope s_Table_told) := ⟨rfl, rfl, rfl, by decide +kernel, rfl, by decide +kernel, by decide +kernel⟩
theorem ok_Table_told {P : Program} {w : World} {K : PySem.W.Frag} {mg : Str → Option Value} {base : Heap} (T : Txt K mg) : FnOk P w K mg base CX0 1 T.Table_told.f T.Table_told.fd ["self"] (spTold T.Table.C) := by
  refine T.Table_told.F.ok sc_Table_told (fun vs H Q E h => ?_) (fun cdv A outer s H vs Q E hr h => ⟨_, (pss_cons (ps_set (i := 1) sc_Table_told.nd rfl (Or.inl rfl) (pe_lst (by exact (pa_cons (pe_callB (call_lenK (K := K)) (by rfl) T.z_len PySem.boot_len (by exact (pa_cons (pe_fldK (K := K) (pv 0) rfl) pa_nil))) pa_nil))))
    (pss_cons (ps_for PassesOwn.never rfl (pi_listK (K := K) (pe_fldK (K := K) (pv 0) rfl)) (pg_name (i := 2) sc_Table_told.nd rfl (Or.inl rfl))
    (pss_one (ps_expr (pe_bm PySem.F.plainAttrs_list PySem.F.slot_list_extend PySem.F.type_list_extend mt_extend (pv 1) (by exact (pa_cons (pv 2) pa_nil))))))
    (pss_one (ps_ret (pe_op op_cat (pv 1) (pe_lst (by exact (pa_cons (pe_fldK (K := K) (pv 0) rfl) (pa_cons (pe_fldK (K := K) (pv 0) rfl) pa_nil))))))))), ?_⟩)
  · obtain ⟨G, q, r, ws, t, rfl, _⟩ := h
    rfl
  · obtain ⟨G, q, r, ws, t, rfl, A, O, hQ⟩ := h
    obtain ⟨dx, hq⟩ := A.obj
    have hO := O.rows
    refine ⟨_, rfl, q, _, dx, _, _, rfl, hq, T.Table.cl, T.n_Table_rows, tbF_rows, r, ws, rfl, .inl (SqL.of A.lst), by show 1 ≤ sizeLine; decide, fun L hL => ?_⟩
    have s0 := Same.new (o := .lst [V.int (ws.length : Nat)]) hL
    have l0 : (upd H L (.lst [V.int (ws.length : Nat)])) L = some (.lst [V.int (ws.length : Nat)]) := upd_same
    generalize upd H L (.lst [V.int (ws.length : Nat)]) = H0 at s0 l0 ⊢
    refine ⟨_, rfl, q, _, dx, _, _, rfl, s0 _ _ hq, T.Table.cl, T.n_Table_rows, tbF_rows, r, rfl, ⟨ws, SqL.of (s0 _ _ A.lst)⟩, for_list (K := K) (a := r) (xs := ws) (fun i σ H' => ∃ v, σ = [some (.ref q), some (.ref L), v] ∧ Same H H' ∧ H' L = some (.lst (((ws.length : Int) :: (t.rows.take i).flatten).map V.int))) ⟨_, rfl, s0, l0⟩ (fun i σ H' _ ⟨_, _, s, _⟩ => SqL.of (s _ _ A.lst)) ?_ ?_⟩
    · rintro i x σ H' hi ⟨v, rfl, s1, h1⟩
      obtain ⟨row, hrow, y, rfl, g2, g3, g4⟩ := A.rows.getV hi
      have hw : row.length = 3 := O.wide _ (List.mem_of_getElem? hrow)
      have hfl := flat_len (t.rows.take i) fun r hr => O.wide r (List.mem_of_mem_take hr)
      rw [List.length_take] at hfl
      refine ⟨_, rfl, tyL h1, _, rfl, L, y, _, _, rfl, rfl, h1, s1 _ _ g4, Nat.le_of_lt (small6 (by rw [List.length_map, List.length_map, List.length_cons]; omega)), _, rfl, Same.mut s1 hL, ?_⟩
      rw [upd_same, take_one hrow, List.flatten_append, ← List.map_append]
      simp
    · rintro σ H' ⟨v, rfl, s1, h1⟩
      rw [A.len, List.take_length] at h1
      have hq1 := s1 _ _ hq
      have hfl := flat_len t.rows O.wide
      refine ⟨_, rfl, _, rfl, q, _, dx, _, _, rfl, hq1, T.Table.cl, T.n_Table_cursor, tbF_cursor, _, rfl, q, _, dx, _, _, rfl, hq1, T.Table.cl, T.n_Table_clip, tbF_clip, by show 2 ≤ sizeLine; decide, fun z hz => ?_⟩
      have s2 := Same.new (o := .lst [V.int (t.at_ : Nat), V.int t.clip]) hz
      refine ⟨L, z, _, _, rfl, rfl, s2 _ _ h1, upd_same, Nat.le_of_lt (small6 (by rw [List.length_map, List.length_cons]; show t.rows.flatten.length + 1 + 2 ≤ 6000; omega)), fun y hy => ?_⟩
      refine hQ _ y ((s1.trans s2).trans (Same.new hy)) ((Dom.of (s1.trans s2)).none hy) ?_
      rw [upd_same]
      unfold flatTable
      rw [List.map_cons, List.map_cons, List.map_append]
      rfl
/-! ### deeds done on a table -/
theorem gotN_pos (f : Fault) : 0 < faultNumber f := by cases f <;> decide
/-- run_on -/
def spRunOn (C : Addr) : Sp := fun vs H Q _ => ∃ (G : Hp) (q r : Addr) (ws : List V) (t : Table) (l : List Deed) (a : Addr) (ds : List V), vs = [.ref q, .ref a] ∧ Same G H ∧ Rec G l a ds ∧ l.length ≤ 60 ∧ l.all okF = true ∧ Tab C G H q r ws t ∧ TabOk t ∧
  ∀ H' ws' v, Same G H' → Tab C G H' q r ws' (runPy t l 0).2.2 → TabOk (runPy t l 0).2.2 → (∃ p, v = .ref p ∧ H' p = some (.tup [.int (runPy t l 0).1, .int ((runPy t l 0).2.1 : Nat)])) → Q v H'
theorem sc_run_on : FnScope ["table", "deeds", "number", "deed", "fault"] ["table", "deeds"] (defScope s_run_on) := ⟨rfl, rfl, rfl, by decide +kernel, rfl, by decide +kernel, by decide +kernel⟩
theorem ok_run_on {P : Program} {w : World} {K : PySem.W.Frag} {mg : Str → Option Value} {base : Heap} (T : Txt K mg) : FnOk P w K mg base CX0 4 T.run_on.f T.run_on.fd ["table", "deeds"] (spRunOn T.Table.C) := by
  refine T.run_on.F.ok sc_run_on (fun vs H Q E h => ?_) (fun cdv A outer s H vs Q E hr h => ⟨_, (pss_cons (ps_for PassesOwn.never rfl (pi_enumK (K := K) (by rfl) T.z_enumerate (by exact (pa_cons (pv 1) pa_nil))) (pg_tupK (K := K) (n := 2) (by rfl) (pgs_cons (pg_name (i := 2) sc_run_on.nd rfl (Or.inl rfl)) (pgs_cons (pg_name (i := 3) sc_run_on.nd rfl (Or.inl rfl)) pgs_nil)))
    (pss_cons (ps_set (i := 4) sc_run_on.nd rfl (Or.inl rfl) (pe_meth (pv 0) T.Table.cl T.Table_do.m (ok_Table_do T) (hr.mono (by decide)) T.Table_do.b .nil pass0 (by exact (pa_cons (pv 3) pa_nil))))
    (pss_one (ps_if (pt_cmpR op_gt (pv 4) pe_int (nomark _))
    (pss_one (ps_ret (pe_tup (by exact (pa_cons (pv 4) (pa_cons (pv 2) pa_nil))))))
    pss_nil))))
    (pss_one (ps_ret (pe_tup (by exact (pa_cons pe_int (pa_cons (pe_callB (call_lenK (K := K)) (by rfl) T.z_len PySem.boot_len (by exact (pa_cons (pv 1) pa_nil))) pa_nil))))))), ?_⟩)
  · obtain ⟨G, q, r, ws, t, l, a, ds, rfl, _⟩ := h
    rfl
  · obtain ⟨G, q, r, ws, t, l, a, ds, rfl, sG, R, hl, hok, A, O, hQ⟩ := h
    have hdl : ds.length = l.length := R.all.1.symm
    refine ⟨_, rfl, a, ds, rfl, SqL.of (sG _ _ R.at_), for_it (walk_enum (K := K) (a := a) (xs := ds)) (fun i σ H' => ∃ v w u t' ws', σ = [some (.ref q), some (.ref a), v, w, u] ∧ Same G H' ∧ Tab T.Table.C G H' q r ws' t' ∧ TabOk t' ∧ runPy t l 0 = runPy t' (l.drop i) i) ⟨_, _, _, t, ws, rfl, sG, A, O, rfl⟩ (fun i σ H' _ ⟨_, _, _, _, _, _, s, _⟩ => SqL.of (s _ _ R.at_)) ?_ ?_⟩
    · rintro i x σ H1 H2 hi ⟨v, w, u, t', ws', rfl, s1, A1, O1, hrun⟩ ⟨T0, ki, y, rfl, nT, rfl, ek, ey⟩
      obtain rfl : V.int (i : Nat) = ki := Option.some.inj ek
      obtain ⟨d, hd, hdv⟩ := R.all.getV ey
      have s2 := s1.trans (Same.new (o := .tup [.int (i : Nat), y]) nT)
      have A2 := A1.same (Same.new (o := .tup [.int (i : Nat), y]) nT)
      have hT : (upd H1 T0 (.tup [.int (i : Nat), y])) T0 = some (.tup [.int (i : Nat), y]) := upd_same
      generalize upd H1 T0 (.tup [.int (i : Nat), y]) = H3 at s2 A2 hT ⊢
      obtain ⟨dx, hq2⟩ := A2.obj
      have hdk : okF d = true := List.all_eq_true.mp hok d (List.mem_of_getElem? hd)
      have hdrop : l.drop i = d :: l.drop (i + 1) := by
        have hil : i < l.length := (List.getElem?_eq_some_iff.mp hd).1
        rw [List.drop_eq_getElem_cons hil]
        congr 1
        exact (List.getElem?_eq_some_iff.mp hd).2
      rw [hdrop] at hrun
      refine ⟨T0, _, rfl, SqT.of hT, rfl, _, _, rfl, _, _, rfl, rfl, ?_⟩
      refine ⟨_, rfl, q, dx, _, rfl, hq2, tbF_m_do, _, rfl, G, q, r, ws', t', y, d, rfl, s2, hdv, A2, O1, hdk, fun H4 ws4 s4 A4 => ?_⟩
      have hstep : runPy t' (d :: l.drop (i + 1)) i = match doneBy t' d with
          | .error f => (faultNumber f, i, t')
          | .ok t2 => runPy t2 (l.drop (i + 1)) (i + 1) := rfl
      rw [hstep] at hrun
      cases hdone : doneBy t' d with
      | error f =>
        rw [hdone] at A4 hrun
        have hpos := gotN_pos f
        refine ⟨_, rfl, _, _, rfl, rfl, _, rfl, ?_⟩
        have ed : decide ((0 : Int) < gotN (.error f)) = true := decide_eq_true hpos
        rw [ed]
        refine iteT ⟨_, rfl, _, rfl, by show 2 ≤ sizeLine; decide, fun p hp => ?_⟩
        rw [hrun] at hQ
        exact hQ _ ws4 _ (s4.trans (Same.new hp)) (A4.same (Same.new hp)) O1 ⟨p, rfl, upd_same⟩
      | ok t2 =>
        rw [hdone] at A4 hrun
        exact ⟨_, rfl, _, _, rfl, rfl, _, rfl, iteF ⟨_, _, _, t2, ws4, rfl, s4, A4, tabOk_done O1 hdone, hrun⟩⟩
    · rintro σ H1 ⟨v, w, u, t', ws', rfl, s1, A1, O1, hrun⟩
      rw [hdl, List.drop_length] at hrun
      have hrun : runPy t l 0 = (0, l.length, t') := hrun
      refine ⟨_, rfl, a, ds, rfl, .inl (SqL.of (s1 _ _ R.at_)), by show 2 ≤ sizeLine; decide, fun p hp => ?_⟩
      rw [hrun] at hQ
      exact hQ _ ws' _ (s1.trans (Same.new hp)) (A1.same (Same.new hp)) O1 ⟨p, rfl, by rw [upd_same, hdl]⟩
end My
namespace My
open PySem PySem.Spec PyProof.Rows L2
open VamacBase (Deed Prog Table Reader readTimes readTable whole flatTable)
/-- lc_read, the items told apart: each is an object of its own -/
theorem lc_readN {K : PySem.W.Frag} {C Ref : Addr} {E : XK} {σ : L2.St} {H : Hp} {a b D : Addr} {l : List Int} {k n j : Nat} {A : Type} {rd : Reader A} {R : A → Hp → V → Prop} {Qd : Hp → Prop} {te : TE}
    (mono : ∀ x H H' v, Same H H' → R x H v → R x H' v) (fresh : ∀ x N v, R x N v → ∃ p o, v = .ref p ∧ N p = some o) (hn : n ≤ 1000) (hD : H D = none) (N : NumAt K C H a b l k)
    (hte : ∀ (H3 : Hp) (z : V) (QQ : VK) (k : Nat), NumAt K C H3 a b l k → (rd (l.drop k) = none → ErrB Ref a (-1) H3 E) → (∀ x k' H' v, rd (l.drop k) = some (x, l.drop k') → But a H3 H' → NumAt K C H' a b l k' → R x (New H3 H') v → QQ v H') → te ((wipe σ [j]).set j (some z)) H3 QQ)
    (hE : readTimes rd n (l.drop k) = none → ErrB Ref a (-1) H E)
    (hQ : ∀ xs k' H' vs, readTimes rd n (l.drop k) = some (xs, l.drop k') → But a H H' → NumAt K C H' a b l k' → H' D = some (.lst vs) → All2 (fun x v => R x (New (upd H D (.lst [])) H') v) xs vs → vs.Nodup → Qd H') :
    ∃ W : Nat → Nat → Hp → Prop, (∃ m, W 0 m (upd H D (.lst []))) ∧ ∀ i m H, W i m H →
      ((Itr 0 n).stop i H ∧ Qd H) ∨ ((Itr 0 n).go i H ∧ ∃ Nx : Hp → Prop, (∀ H', Nx H' → ∃ m', m' < m ∧ W (i + 1) m' H') ∧ ∀ x H', (Itr 0 n).yld i H x H' → gName j x (wipe σ [j]) H' fun σ2 H2 => wipe σ2 [j] = wipe σ [j] ∧ tYes σ2 H2 fun b H3 =>
        if b = true then te σ2 H3 fun y H4 => ∃ acc, H4 D = some (.lst acc) ∧ acc.length < sizeLine ∧ Nx (upd H4 D (.lst (acc ++ [y]))) else Nx H3) := by
  have aD : a ≠ D := fun z => by
    obtain ⟨o, h⟩ := N.some_
    rw [z, hD] at h
    cases h
  have ex : ∃ o, (upd H D (.lst [])) a = some o := by rw [upd_ne aD]; exact N.some_
  have exD : ∃ o, (upd H D (.lst [])) D = some o := ⟨_, upd_same⟩
  refine lc_range (lo := 0) (n := n) (fun i H' => ∃ xs vs k', readTimes rd i (l.drop k) = some (xs, l.drop k') ∧ But a H H' ∧ NumAt K C H' a b l k' ∧ H' D = some (.lst vs) ∧ All2 (fun x v => R x (New (upd H D (.lst [])) H') v) xs vs ∧ vs.Nodup) ?_ ?_ ?_
  · exact ⟨[], [], k, rfl, But.of (Same.new hD), N.same (Same.new hD), upd_same, All2.nil, List.Pairwise.nil⟩
  · rintro i H3 hi ⟨xs, vs, k', e, bt, N3, h3, hR, hnd⟩
    refine ⟨by show wipe ((wipe σ [j]).set j _) [j] = wipe σ [j]; simp [wipe], ?_⟩
    change te _ H3 _
    have hlen : xs.length = i := readTimes_length e
    refine hte H3 _ _ k' N3 (fun z => (hE ?_).mono bt) fun x k2 H4 v e2 b4 N4 r => ?_
    · refine readTimes_none rd (n := i + 1) ?_ (by omega)
      rw [readTimes_snoc, e]
      show Option.map _ (rd (l.drop k')) = none
      rw [z]
      rfl
    · have d4 : H4 D = some (.lst vs) := b4 _ _ h3 (Ne.symm aD)
      have bt2 : But D H4 (upd H4 D (.lst (vs ++ [v]))) := But.wr
      have e3 : readTimes rd (i + 1) (l.drop k) = some (xs ++ [x], l.drop k2) := by
        rw [readTimes_snoc, e]
        show Option.map _ (rd (l.drop k')) = _
        rw [e2]
        rfl
      refine ⟨vs, d4, by rw [← hR.1, hlen]; exact small1000 (by omega), xs ++ [x], vs ++ [v], k2, e3, ?_, ?_, upd_same, ?_, ?_⟩
      · intro c o z z2
        rw [upd_ne (ne_of_none z hD)]
        exact b4 _ _ (bt c o z z2) z2
      · obtain ⟨dx, h5⟩ := N4.at_
        exact ⟨⟨dx, by rw [upd_ne aD]; exact h5⟩, seq_past N.seq hD N4.seq, N4.le, N4.few⟩
      · refine All2.snoc (hR.mono fun x v h => mono x _ _ v (New.but bt2 exD) (mono x _ _ v (New.but b4 ex) h)) (mono x _ _ v (New.but bt2 exD) (mono x _ _ v (New.more ?_) r))
        intro c o z
        by_cases hc : c = D
        · exact ⟨_, by rw [hc]; exact h3⟩
        · rw [upd_ne hc] at z
          by_cases hca : c = a
          · rw [hca]
            exact N3.some_
          · exact ⟨o, bt c o z hca⟩
      · obtain ⟨p, o, rfl, hp⟩ := fresh x _ v r
        have hp3 := (New.out hp).1
        refine List.nodup_append.mpr ⟨hnd, List.nodup_cons.mpr ⟨by simp, List.Pairwise.nil⟩, fun u hu w hw => ?_⟩
        have ew : w = V.ref p := by simpa using hw
        rw [ew]
        rintro rfl
        obtain ⟨c, hc⟩ := List.mem_iff_getElem?.mp hu
        obtain ⟨x', _, r'⟩ := hR.getV hc
        obtain ⟨p', o', ep, hp'⟩ := fresh x' _ _ r'
        cases ep
        rw [(New.out hp').2] at hp3
        cases hp3
  · rintro H3 ⟨xs, vs, k', e, bt, N3, h3, hR, hnd⟩
    exact hQ xs k' H3 vs e bt N3 h3 hR hnd
theorem take_eq {A : Type} {K : PySem.W.Frag} {C Ref a b : Addr} {l : List Int} {H : Hp} {E : XK} {k : Nat} {σ : L2.St} {lo hi : Int} {i : Nat} {QQ : VK} {t1 t2 : TE} {o : Option (A × List Int)} (h0 : σ[i]? = some (some (.ref a))) (N : NumAt K C H a b l k)
    (h1 : ∀ (Q : VK), Q (.int lo) H → t1 σ H Q) (h2 : ∀ (Q : VK), Q (.int hi) H → t2 σ H Q) (F : Int × List Int → Option (A × List Int)) (e : o = (takeZ lo hi (l.drop k)).bind F) (no : o = none → ErrB Ref a (-1) H E)
    (hQ : ∀ z k' H', lo ≤ z → z ≤ hi → But a H H' → NumAt K C H' a b l k' → o = F (z, l.drop k') → (o = none → ErrB Ref a (-1) H' E) → QQ (.int z) H') :
    tMeth C "take" (spTake K C Ref) [] E (tVar i) (tCons t1 (tCons t2 tNil)) σ H QQ :=
  take_rd h0 N h1 h2 (fun z => no (by rw [e, z]; rfl)) fun z k' H' e' bt N' => hQ z k' H' (takeZ_some e').2.1 (takeZ_some e').2.2 bt N' (by rw [e, e']; rfl) fun q => (no q).mono bt
def RowV (row : List Int) (N : Hp) (v : V) : Prop := ∃ x, v = .ref x ∧ N x = some (.lst (row.map V.int))
theorem ints_all {xs : List Int} {vs : List V} (h : All2 (fun z v => v = V.int z) xs vs) : vs = xs.map V.int := by
  apply List.ext_getElem?
  intro i
  rw [List.getElem?_map]
  cases e : vs[i]? with
  | none =>
    have := List.getElem?_eq_none_iff.mp e
    rw [List.getElem?_eq_none (by rw [h.1]; exact this)]
    rfl
  | some v =>
    obtain ⟨z, h1, h2⟩ := h.getV e
    rw [h1, h2]
    rfl
theorem sc_read_values : FnScope ["numbers", "turn"] ["numbers"] (defScope s_read_values) := ⟨rfl, rfl, rfl, by decide +kernel, rfl, by decide +kernel, by decide +kernel⟩
theorem ok_read_values {P : Program} {w : World} {K : PySem.W.Frag} {mg : Str → Option Value} {base : Heap} (T : Txt K mg) : FnOk P w K mg base (L2.CX P w) 5 T.read_values.f T.read_values.fd ["numbers"] (spRd K T.Numbers.C T.Ref (readTimes (takeZ (-999) 999) 3) RowV) := by
  refine T.read_values.F.okX sc_read_values (fun vs H Q E h => ?_) (fun cdv A outer s H vs Q E hr h => ⟨_, (pss_one (ps_ret (pe_lcX (own := [("turn", 1)]) (W := E) (takes_of rfl rfl rfl rfl) rfl rfl rfl sc_read_values.nd (pi_range1 (by rfl) T.z_range (by exact (pa_cons (pe_cst (by rfl) T.c_FIELDS) pa_nil))) (blkOk_by (N := ["numbers", "turn"]) (sc := defScope s_read_values) (by decide +kernel)) (fun _ _ _ _ _ => (pg_name (i := 1) sc_read_values.nd rfl (Or.inl rfl))) (fun _ _ _ _ _ => pts_nil) (fun _ _ _ _ _ => (pe_meth (pv 0) T.Numbers.cl T.Numbers_take.m (ok_Numbers_take T) (hr.mono (by decide)) T.Numbers_take.b .nil passB (by exact (pa_cons (pe_un un_neg (pe_cst (by rfl) T.c_MOST)) (pa_cons (pe_cst (by rfl) T.c_MOST) pa_nil)))))))), ?_⟩)
  · obtain ⟨a, b, l, k, rfl, _⟩ := h
    rfl
  · obtain ⟨a, b, l, k, rfl, N, hE, hQ⟩ := h
    refine r_ret ⟨3, rfl, by decide, by decide, fun D hD => ?_⟩
    refine lc_read (n := 3) (K := K) (C := T.Numbers.C) (Ref := T.Ref) (E := E) (a := a) (b := b) (l := l) (k := k) (rd := takeZ (-999) 999) (R := fun z _ v => v = V.int z) (fun z H H' v _ h => h) (by decide) hD N (fun H3 y QQ k N3 h3 h4 => ?_) hE fun xs k' H3 vs e b3 N3 h3 hR => ?_
    · exact take_rd (a := a) rfl N3 num_neg num_c h3 fun z k' H' e b N => h4 z k' H' _ e b N rfl
    · exact hQ xs k' H3 _ e b3 N3 ⟨D, rfl, New.of hD (by rw [h3, ints_all hR])⟩
/-! ### a table read -/
def TabV (C : Addr) (t : Table) (N : Hp) (v : V) : Prop := ∃ q r ws, v = .ref q ∧ Tab C (fun _ => none) N q r ws t
theorem Tab.new {C : Addr} {H H' : Hp} {q r : Addr} {ws : List V} {t : Table} (A : Tab C (fun _ => none) (New H H') q r ws t) : Tab C H H' q r ws t := by
  obtain ⟨dx, hq⟩ := A.obj
  exact ⟨⟨dx, (New.out hq).2⟩, (New.out hq).1, (New.out A.lst).2, (New.out A.lst).1, A.rows.mono fun _ _ ⟨x, h1, _, h3, h4⟩ => ⟨x, h1, (New.out h4).1, h3, (New.out h4).2⟩, A.nd⟩
theorem sc_whole_table : FnScope ["some", "numbers", "many", "rows", "cursor", "clip", "turn"] ["some"] (defScope s_whole_table) := ⟨rfl, rfl, rfl, by decide +kernel, rfl, by decide +kernel, by decide +kernel⟩
theorem ok_whole_table {P : Program} {w : World} {K : PySem.W.Frag} {mg : Str → Option Value} {base : Heap} (T : Txt K mg) : FnOk P w K mg base (L2.CX P w) 6 T.whole_table.f T.whole_table.fd ["some"] (spWhole K T.Ref readTable (TabV T.Table.C)) := by
  refine T.whole_table.F.okX sc_whole_table (fun vs H Q E h => ?_) (fun cdv A outer s H vs Q E hr h => ⟨_, (pss_cons (ps_set (i := 1) sc_whole_table.nd rfl (Or.inr rfl) (pe_make T.mk_Numbers (ok_Numbers_init T) (hr.mono (by decide)) rfl T.Numbers.g T.Numbers_init.b .nil pass0 (by exact (pa_cons (pv 0) pa_nil))))
    (pss_cons (ps_set (i := 2) sc_whole_table.nd rfl (Or.inl rfl) (pe_meth (pv 1) T.Numbers.cl T.Numbers_take.m (ok_Numbers_take T) (hr.mono (by decide)) T.Numbers_take.b .nil (passes_call (takes_of rfl rfl rfl rfl) fun _ _ _ _ h => h) (by exact (pa_cons pe_int (pa_cons (pe_cst (by rfl) T.c_MOST_ROWS) pa_nil)))))
    (pss_cons (ps_setLcX (i := 3) (own := [("turn", 6)]) (W := E) (takes_of rfl rfl rfl rfl) rfl rfl rfl sc_whole_table.nd rfl rfl (sw_true rfl rfl rfl (by decide +kernel)) (pi_range1 (by rfl) T.z_range (by exact (pa_cons (pv 2) pa_nil))) (blkOk_by (N := ["some", "numbers", "many", "rows", "cursor", "clip", "turn"]) (sc := defScope s_whole_table) (by decide +kernel)) (fun _ _ _ _ _ => (pg_name (i := 6) sc_whole_table.nd rfl (Or.inl rfl))) (fun _ _ _ _ _ => pts_nil) (fun _ _ _ _ _ => (pe_call (ok_read_values T) (hr.mono (by decide)) rfl T.read_values.g T.read_values.k T.read_values.b .nil passB (by exact (pa_cons (pv 1) pa_nil)))))
    (pss_cons (ps_set (i := 4) sc_whole_table.nd rfl (Or.inl rfl) (pe_meth (pv 1) T.Numbers.cl T.Numbers_take.m (ok_Numbers_take T) (hr.mono (by decide)) T.Numbers_take.b .nil (passes_call (takes_of rfl rfl rfl rfl) fun _ _ _ _ h => h) (by exact (pa_cons pe_int (pa_cons (pv 2) pa_nil)))))
    (pss_cons (ps_set (i := 5) sc_whole_table.nd rfl (Or.inl rfl) (pe_meth (pv 1) T.Numbers.cl T.Numbers_take.m (ok_Numbers_take T) (hr.mono (by decide)) T.Numbers_take.b .nil (passes_call (takes_of rfl rfl rfl rfl) fun _ _ _ _ h => h) (by exact (pa_cons (pe_un un_neg (pe_cst (by rfl) T.c_MOST)) (pa_cons (pe_cst (by rfl) T.c_MOST) pa_nil)))))
    (pss_cons (ps_expr (pe_meth0 (pv 1) T.Numbers.cl T.Numbers_end.m (ok_Numbers_end T) (hr.mono (by decide)) T.Numbers_end.b .nil (passes_call (takes_of rfl rfl rfl rfl) fun _ _ _ _ h => h)))
    (pss_one (ps_ret (pe_make T.mk_Table (ok_Table_init T) (hr.mono (by decide)) rfl T.Table.g T.Table_init.b .nil pass0 (by exact (pa_cons (pv 3) (pa_cons (pv 4) (pa_cons (pv 5) pa_nil))))))))))))), ?_⟩)
  · obtain ⟨b, l, rfl, _⟩ := h
    rfl
  · obtain ⟨b, l, rfl, hb, hl, hE, hQ⟩ := h
    rw [whole_table] at hE hQ
    refine r_set (make_num (b := b) (l := l) rfl hb hl fun x H1 nx s1 N1 => ?_)
    have e0 : rdTable l = (takeZ 0 8 (l.drop 0)).bind fun n => (readTimes (readTimes (takeZ (-999) 999) 3) n.1.toNat n.2).bind fun rows =>
      (takeZ 0 n.1 rows.2).bind fun c => (takeZ (-999) 999 c.2).bind fun v => some ((⟨rows.1, c.1.toNat, v.1⟩ : Table), v.2) := by
      unfold rdTable
      simp only [map_bnd]
      rfl
    have no0 : rdTable l = none → ErrB T.Ref x (-1) H1 E := fun z => ErrS.new (hE (whole_none z)) s1 nx
    refine r_set (take_eq (a := x) (b := b) (l := l) (k := 0) rfl N1 num_c num_c _ e0 no0 fun n k2 H2 n0 n8 b2 N2 e2 no2 => ?_)
    clear e0 no0
    have s2 : Same H H2 := fun c o y => b2 c o (s1 c o y) (ne_of_none y nx)
    refine ⟨_, rfl, n, rfl, by omega, by omega, fun D hD => ?_⟩
    refine lc_readN (K := K) (C := T.Numbers.C) (Ref := T.Ref) (E := E) (a := x) (b := b) (l := l) (k := k2) (rd := readTimes (takeZ (-999) 999) 3) (R := RowV) (fun d H H' v s h => (let ⟨y, h1, h2⟩ := h; ⟨y, h1, s _ _ h2⟩)) (fun d N v h => (let ⟨y, h1, h2⟩ := h; ⟨y, _, h1, h2⟩)) (by omega) hD N2 (fun H3 y QQ k N3 h3 h4 => ?_) (fun e => ?_) fun rows k3 H3 vs e3 b3 N3 h3 hR hnd => ?_
    · exact call_rd (a := x) (b := b) (l := l) (k := k) rfl N3 h3 h4
    · exact no2 (by rw [e2]; simp only [e, Option.bind_none])
    · simp only [e3, Option.bind_some] at e2
      have no3 : rdTable l = none → ErrB T.Ref x (-1) H3 E := fun z => (no2 z).mono b3
      refine r_set (take_eq (a := x) (b := b) (l := l) (k := k3) rfl N3 num_c (fun Q q => ⟨_, rfl, q⟩) _ e2 no3 fun c k4 H4 c0 cn b4 N4 e4 no4 => ?_)
      refine r_set (take_eq (a := x) (b := b) (l := l) (k := k4) rfl N4 num_neg num_c _ e4 no4 fun v k5 H5 v0 v9 b5 N5 e5 no5 => ?_)
      have b35 := b4.trans b5
      have s5 : Same H H5 := fun c o y => b35 c o (b3 c o (s2 c o y) (ne_of_none y nx)) (ne_of_none y nx)
      refine r_drop (end_rd (a := x) (b := b) (l := l) (k := k5) rfl N5 (fun y => (hE (whole_rest e5 y)).mono s5) fun y => ?_)
      refine ⟨_, rfl, _, rfl, _, rfl, ?_⟩
      intro p dp np nd ne
      have s6 : Same H5 (upd (upd H5 dp (.own p)) p (.ins T.Table.C dp [])) := Same.mut (Same.new nd) np
      have ec : ((c.toNat : Nat) : Int) = c := Int.toNat_of_nonneg c0
      refine ⟨p, dp, D, c.toNat, v, (by rw [ec]; rfl), upd_same, fun H6 h6 b6 => ⟨rfl, ?_⟩⟩
      have s7 : Same H5 H6 := fun c o y => b6 c o (s6 c o y) (ne_of_none y np)
      obtain ⟨dx, hx3⟩ := N3.at_
      have to6 : ∀ (y : Addr) (zs : List V), H3 y = some (.lst zs) → H6 y = some (.lst zs) := fun y zs hy => s7 _ _ (b35 _ _ hy (ne_of hy hx3 (by intro z; cases z)))
      have hHD : H D = none := (Dom.of s2).none hD
      refine hQ ⟨rows, c.toNat, v⟩ H6 _ (whole_some e5 y) (s5.trans s7) ⟨p, D, vs, rfl, ⟨⟨dp, New.of ((Dom.of s5).none np) h6⟩, rfl, New.of hHD (to6 _ _ h3), rfl, hR.mono fun row w h => ?_, hnd⟩⟩
      obtain ⟨z, rfl, hz⟩ := h
      obtain ⟨z1, z2⟩ := New.out hz
      have hzD : z ≠ D := fun q => by rw [q, upd_same] at z1; cases z1
      rw [upd_ne hzD] at z1
      exact ⟨z, rfl, rfl, hzD, New.of ((Dom.of s2).none z1) (to6 _ _ z2)⟩
end My
namespace My
open PySem PySem.Spec PyProof.Rows L2
open VamacBase (Deed Prog Table Reader readDeed readTimes readListed readTable readProg whole flatTable flatDeeds flatDeed flatProg okPieces)
open Vamacb (isCounted lengthOf unroll unrollFrom foldings leastOf)
/-! ### what is read is within the limits -/
theorem whole_in {A : Type} {rd : Reader A} {l : List Int} {x : A} (h : whole rd l = some x) : rd l = some (x, []) := by
  unfold whole at h
  cases e : rd l with
  | none => rw [e] at h; cases h
  | some u =>
    obtain ⟨y, r⟩ := u
    rw [e] at h
    cases r with
    | nil => cases h; rfl
    | cons _ _ => cases h
theorem listed_ok {l : List Int} {ds : List Deed} (h : whole (readListed 0 14 readDeed) l = some ds) : ds.length ≤ 14 ∧ ds.all okF = true := by
  have h := whole_in h
  rw [listed_take] at h
  cases e : takeZ 0 ((14 : Nat) : Int) l with
  | none => rw [e] at h; cases h
  | some u =>
    obtain ⟨z, r⟩ := u
    obtain ⟨_, z0, z14⟩ := takeZ_some e
    rw [e] at h
    have h : readTimes readDeed z.toNat r = some (ds, []) := h
    refine ⟨?_, ?_⟩
    · rw [readTimes_length h]
      omega
    · rw [List.all_eq_true]
      exact readTimes_all (P := fun d => okF d = true) (fun x u r hu => (readDeed_okF hu).1) h
theorem deed_ok {l : List Int} {d : Deed} (h : whole readDeed l = some d) : okF d = true := (readDeed_okF (whole_in h)).1
theorem tmB_of : ∀ {p : Prog}, okPieces p = true → tmB p = true
  | .done, _ => rfl
  | .deed d s r, h => by
    have h : (VamacBase.okDeed d && (VamacBase.okValue s && ((VamacBase.hasNumber d || s == 0) && okPieces r))) = true := h
    simp only [Bool.and_eq_true] at h
    exact tmB_of (p := r) h.2.2.2
  | .times n b r, h => by
    have h : (decide (1 ≤ n) && (decide (n ≤ 9) && (okPieces b && okPieces r))) = true := h
    simp only [Bool.and_eq_true, decide_eq_true_eq] at h
    show (decide (n ≤ 1000) && (tmB b && tmB r)) = true
    rw [decide_eq_true (show n ≤ 1000 by omega), tmB_of (p := b) h.2.2.1, tmB_of (p := r) h.2.2.2]
    rfl
  | .toEnd b r, h => by
    have h : (okPieces b && okPieces r) = true := h
    simp only [Bool.and_eq_true] at h
    show (tmB b && tmB r) = true
    rw [tmB_of (p := b) h.1, tmB_of (p := r) h.2]
    rfl
  | .when f v b r, h => by
    have h : (VamacBase.okField f && (VamacBase.okValue v && (okPieces b && okPieces r))) = true := h
    simp only [Bool.and_eq_true] at h
    show (tmB b && tmB r) = true
    rw [tmB_of (p := b) h.2.2.1, tmB_of (p := r) h.2.2.2]
    rfl
theorem tmB_U : ∀ p : Prog, tmB p = tmU 1000 p
  | .done => rfl
  | .deed d s r => tmB_U r
  | .times n b r => by
    show (_ && (tmB b && tmB r)) = (_ && (tmU 1000 b && tmU 1000 r))
    rw [tmB_U b, tmB_U r]
  | .toEnd b r => by
    show (tmB b && tmB r) = (tmU 1000 b && tmU 1000 r)
    rw [tmB_U b, tmB_U r]
  | .when f v b r => by
    show (tmB b && tmB r) = (tmU 1000 b && tmU 1000 r)
    rw [tmB_U b, tmB_U r]
theorem prog_ok {l : List Int} {p : Prog} (h : whole readProg l = some p) : p.depth ≤ 3 ∧ p.size ≤ 16 ∧ tmB p = true := by
  rw [whole_prog] at h
  unfold wholePy at h
  cases e : rdRow 3 l with
  | none => rw [e] at h; cases h
  | some u =>
    obtain ⟨q, r⟩ := u
    rw [e] at h
    cases r with
    | cons _ _ => cases h
    | nil =>
      have h : (if q.size ≤ 16 then some q else none) = some p := h
      split at h
      · rename_i hs
        cases h
        exact ⟨rdRow_deep e, hs, tmB_of (rdRow_ok e)⟩
      · cases h
/-! ### a program's deeds -/
/-- what comes of a call: an error's number, or the deeds then and the answer -/
def spDeedsOf (K : PySem.W.Frag) (Ref : Addr) : Sp := fun vs H Q E => ∃ (b : Addr) (l : List Int), vs = [.ref b] ∧ SqL K H b (l.map V.int) ∧ l.length ≤ 100000 ∧
  match whole readProg l with
  | none => ErrS Ref (-1) H E
  | some p => if isCounted p = false then ErrS Ref (-4) H E else if 60 < lengthOf p then ErrS Ref (-7) H E
    else ∀ H' L xs, Same H H' → H L = none → H' L = some (.lst xs) → All2 (DeedAt H') (unroll p) xs → Q (.ref L) H'
theorem sc_deeds_of_program : FnScope ["some", "program"] ["some"] (defScope s_deeds_of_program) := ⟨rfl, rfl, rfl, by decide +kernel, rfl, by decide +kernel, by decide +kernel⟩
theorem ok_deeds_of_program {P : Program} {w : World} {K : PySem.W.Frag} {mg : Str → Option Value} {base : Heap} (T : Txt K mg) : FnOk P w K mg base (L2.CX P w) 20 T.deeds_of_program.f T.deeds_of_program.fd ["some"] (spDeedsOf K T.Ref) := by
  refine T.deeds_of_program.F.okX sc_deeds_of_program (fun vs H Q E h => ?_) (fun cdv A outer s H vs Q E hr h => ⟨_, (pss_cons (ps_set (i := 1) sc_deeds_of_program.nd rfl (Or.inl rfl) (pe_call (ok_whole_program T) (hr.mono (by decide)) rfl T.whole_program.g T.whole_program.k T.whole_program.b .nil (passes_call (takes_of rfl rfl rfl rfl) fun _ _ _ _ h => h) (by exact (pa_cons (pv 0) pa_nil))))
    (pss_cons (ps_expr (pe_call (ok_want T) (hr.mono (by decide)) rfl T.want.g T.want.k T.want.b .nil (passes_call (takes_of rfl rfl rfl rfl) fun _ _ _ _ h => h) (by exact (pa_cons (pe_call (ok_is_plain T) (hr.mono (by decide)) rfl T.is_plain.g T.is_plain.k T.is_plain.b .nil pass0 (by exact (pa_cons (pv 1) pa_nil))) (pa_cons (pe_cst (by rfl) T.c_NOT_PLAIN) pa_nil)))))
    (pss_cons (ps_expr (pe_call (ok_want T) (hr.mono (by decide)) rfl T.want.g T.want.k T.want.b .nil (passes_call (takes_of rfl rfl rfl rfl) fun _ _ _ _ h => h) (by exact (pa_cons (pe_cmpR op_le (pe_call (ok_many_told T) (hr.mono (by decide)) rfl T.many_told.g T.many_told.k T.many_told.b .nil pass0 (by exact (pa_cons (pv 1) pa_nil))) (pe_cst (by rfl) T.c_MOST_TOLD) (nomark _)) (pa_cons (pe_cst (by rfl) T.c_TOO_MANY) pa_nil)))))
    (pss_one (ps_ret (pe_call (ok_told_by T) (hr.mono (by decide)) rfl T.told_by.g T.told_by.k T.told_by.b .nil pass0 (by exact (pa_cons (pv 1) (pa_cons pe_int pa_nil))))))))), ?_⟩)
  · obtain ⟨b, l, rfl, _⟩ := h
    rfl
  · obtain ⟨b, l, rfl, hb, hl, hQ⟩ := h
    refine ⟨_, rfl, b, l, rfl, hb, hl, fun e => ?_, fun p H1 v e s1 r => ?_⟩
    · rw [e] at hQ
      exact hQ
    · obtain ⟨hdp, hsz, htm⟩ := prog_ok e
      rw [e] at hQ
      have hQ : if isCounted p = false then ErrS T.Ref (-4) H E else if 60 < lengthOf p then ErrS T.Ref (-7) H E
        else ∀ H' L xs, Same H H' → H L = none → H' L = some (.lst xs) → All2 (DeedAt H') (unroll p) xs → Q (.ref L) H' := hQ
      have hrow := (Kept.of (New.sub (H := H) (H' := H1))).row r
      refine ⟨_, rfl, v, p, rfl, hrow, hdp, by omega, fun H2 s2 => ?_⟩
      refine ⟨_, _, rfl, fun hc => ?_, fun hc => ?_⟩
      · rw [if_neg (by rw [hc]; decide)] at hQ
        refine ⟨_, rfl, v, p, rfl, (Kept.of s2).row hrow, hdp, hc, htm, _, _, rfl, rfl, _, _, rfl, fun h60 => ?_, fun h60 => ?_⟩
        · have h60 := of_decide_eq_true h60
          rw [if_neg (by omega)] at hQ
          refine ⟨_, rfl, v, p, 0, rfl, by omega, (Kept.of s2).row hrow, hdp, hc, htm, by omega, fun H3 L xs s3 nL hL hx => ?_⟩
          exact hQ H3 L xs ((s1.trans s2).trans s3) ((Dom.of (s1.trans s2)).none nL) hL hx
        · have h60 := of_decide_eq_false h60
          rw [if_pos (by omega)] at hQ
          exact hQ.mono (s1.trans s2)
      · rw [if_pos hc] at hQ
        exact hQ.mono (s1.trans s2)
/-! ### the desk -/
def dkF (a : Addr) : List (Str × V) := [("deeds", .ref a)]
section
variable {a a' : Addr}
theorem dkF_deeds : (dkF a).lookup ("deeds" : Str) = some (.ref a) := by kernel_rfl
theorem dkF_new : putF "deeds" (.ref a) [] = dkF a := by kernel_rfl
theorem dkF_put : putF "deeds" (.ref a') (dkF a) = dkF a' := by kernel_rfl
theorem dkF_m_do_record : (dkF a).lookup ("do_record" : Str) = none := by kernel_rfl
theorem dkF_m_do_add : (dkF a).lookup ("do_add" : Str) = none := by kernel_rfl
theorem dkF_m_do_drop : (dkF a).lookup ("do_drop" : Str) = none := by kernel_rfl
theorem dkF_m_do_least : (dkF a).lookup ("do_least" : Str) = none := by kernel_rfl
theorem dkF_m_do_is : (dkF a).lookup ("do_is" : Str) = none := by kernel_rfl
theorem dkF_m_do_next : (dkF a).lookup ("do_next" : Str) = none := by kernel_rfl
theorem dkF_m_do_loops : (dkF a).lookup ("do_loops" : Str) = none := by kernel_rfl
theorem dkF_m_do_play : (dkF a).lookup ("do_play" : Str) = none := by kernel_rfl
theorem dkF_m_with_list : (dkF a).lookup ("with_list" : Str) = none := by kernel_rfl
theorem dkF_m_without_list : (dkF a).lookup ("without_list" : Str) = none := by kernel_rfl
theorem dkF_m_answer : (dkF a).lookup ("answer" : Str) = none := by kernel_rfl
end
/-- an object Desk with so many deeds -/
structure Dk (C : Addr) (H : Hp) (d : Addr) (l : List Deed) (a : Addr) (ws : List V) : Prop where
  obj : ∃ dx, H d = some (.ins C dx (dkF a))
  rc : Rec H l a ws
  few : l.length ≤ 14
  ok : l.all okF = true
def DkE (C : Addr) (H : Hp) (d : Addr) (l : List Deed) : Prop := ∃ a ws, Dk C H d l a ws
section
variable {C : Addr} {H H' : Hp} {d : Addr} {l : List Deed} {a : Addr} {ws : List V}
theorem Dk.same (A : Dk C H d l a ws) (e : Same H H') : Dk C H' d l a ws :=
  let ⟨dx, h⟩ := A.obj
  ⟨⟨dx, e _ _ h⟩, A.rc.same e, A.few, A.ok⟩
theorem DkE.same (A : DkE C H d l) (e : Same H H') : DkE C H' d l := let ⟨a, ws, h⟩ := A; ⟨a, ws, h.same e⟩
theorem Dk.len (A : Dk C H d l a ws) : ws.length = l.length := A.rc.all.1.symm
/-- other deeds -/
theorem Dk.put {l' : List Deed} {a' : Addr} {ws' : List V} (hd : ∃ dx fs, H d = some (.ins C dx fs)) (R : Rec H l' a' ws') (h14 : l'.length ≤ 14) (hok : l'.all okF = true) {dx : Addr} : Dk C (upd H d (.ins C dx (dkF a'))) d l' a' ws' := by
  obtain ⟨dx0, fs, hd⟩ := hd
  refine ⟨⟨dx, upd_same⟩, ⟨?_, R.all.mono fun x v ⟨p, h1, h2⟩ => ⟨p, h1, ?_⟩⟩, h14, hok⟩
  · rw [upd_ne (ne_of R.at_ hd (by intro z; cases z))]
    exact R.at_
  · rw [upd_ne (ne_of h2 hd (by intro z; cases z))]
    exact h2
end
/-- the deeds then: the list that it had, or a new one -/
def DkN (C : Addr) (H H' : Hp) (d : Addr) (l : List Deed) : Prop := ∃ a ws, Dk C H' d l a ws ∧ (H a = none ∨ ∃ dx, H d = some (.ins C dx (dkF a)))
/-- what a call does: an error's number, or the deeds then and the answer -/
def Ans (C Ref : Addr) (H : Hp) (d : Addr) (Q : VK) (E : XK) : Except Int (List Deed × List Int) → Prop
  | .error c => ErrS Ref c H E
  | .ok x => ∀ H' L, But d H H' → H L = none → DkN C H H' d x.1 → H' L = some (.lst (x.2.map V.int)) → Q (.ref L) H'
def spDesk0 (C Ref : Addr) (f : List Deed → Except Int (List Deed × List Int)) : Sp := fun vs H Q E => ∃ (d : Addr) (l : List Deed), vs = [.ref d] ∧ DkE C H d l ∧ Ans C Ref H d Q E (f l)
def spDesk1 (K : PySem.W.Frag) (C Ref : Addr) (f : List Deed → List Int → Except Int (List Deed × List Int)) : Sp := fun vs H Q E => ∃ (d b : Addr) (l : List Deed) (x : List Int), vs = [.ref d, .ref b] ∧ DkE C H d l ∧ SqL K H b (x.map V.int) ∧ x.length ≤ 100000 ∧ Ans C Ref H d Q E (f l x)
def spDeskInit (C : Addr) : Sp := fun vs H Q _ => ∃ (d dx : Addr), vs = [.ref d] ∧ H d = some (.ins C dx []) ∧ ∀ H', DkE C H' d [] → But d H H' → Q .non H'
theorem sc_Desk_init : FnScope ["self"] ["self"] (defScope s_Desk_init) := ⟨rfl, rfl, rfl, by decide +kernel, rfl, by decide +kernel, by decide +kernel⟩
theorem ok_Desk_init {P : Program} {w : World} {K : PySem.W.Frag} {mg : Str → Option Value} {base : Heap} (T : Txt K mg) : FnOk P w K mg base CX0 1 T.Desk_init.f T.Desk_init.fd ["self"] (spDeskInit T.Desk.C) := by
  refine T.Desk_init.F.ok sc_Desk_init (fun vs H Q E h => ?_) (fun cdv A outer s H vs Q E hr h => ⟨_, (pss_one (ps_fldK (K := K) (pv 0) (pe_lst pa_nil) rfl)), ?_⟩)
  · obtain ⟨d, dx, rfl, _⟩ := h
    rfl
  · obtain ⟨d, dx, rfl, hd, hQ⟩ := h
    refine ⟨by show 0 ≤ sizeLine; decide, fun L hL => ?_⟩
    have s1 := Same.new (o := .lst []) hL
    have hd1 := s1 _ _ hd
    have h1 : (upd H L (.lst [])) L = some (.lst []) := upd_same
    generalize upd H L (.lst []) = H1 at s1 hd1 h1 ⊢
    refine ⟨_, rfl, d, _, dx, [], rfl, hd1, T.Desk.cl, T.n_Desk_deeds, (by show 0 < 1000; decide), ?_⟩
    rw [dkF_new]
    exact hQ _ ⟨L, [], Dk.put ⟨_, _, hd1⟩ ⟨h1, All2.nil⟩ (Nat.zero_le _) rfl⟩ ((But.of s1).trans But.wr)
/-- record -/
def recordX (_ : List Deed) (x : List Int) : Except Int (List Deed × List Int) := match whole (readListed 0 14 readDeed) x with
  | none => .error (-1)
  | some ds => .ok (ds, [(ds.length : Int)])
theorem sc_Desk_do_record : FnScope ["self", "some"] ["self", "some"] (defScope s_Desk_do_record) := ⟨rfl, rfl, rfl, by decide +kernel, rfl, by decide +kernel, by decide +kernel⟩
theorem ok_Desk_do_record {P : Program} {w : World} {K : PySem.W.Frag} {mg : Str → Option Value} {base : Heap} (T : Txt K mg) : FnOk P w K mg base (L2.CX P w) 7 T.Desk_do_record.f T.Desk_do_record.fd ["self", "some"] (spDesk1 K T.Desk.C T.Ref recordX) := by
  refine T.Desk_do_record.F.okX sc_Desk_do_record (fun vs H Q E h => ?_) (fun cdv A outer s H vs Q E hr h => ⟨_, (pss_cons (ps_fldK (K := K) (pv 0) (pe_call (ok_whole_recording T) (hr.mono (by decide)) rfl T.whole_recording.g T.whole_recording.k T.whole_recording.b .nil (passes_call (takes_of rfl rfl rfl rfl) fun _ _ _ _ h => h) (by exact (pa_cons (pv 1) pa_nil))) rfl)
    (pss_one (ps_ret (pe_lst (by exact (pa_cons (pe_callB (call_lenK (K := K)) (by rfl) T.z_len PySem.boot_len (by exact (pa_cons (pe_fldK (K := K) (pv 0) rfl) pa_nil))) pa_nil)))))), ?_⟩)
  · obtain ⟨d, b, l, x, rfl, _⟩ := h
    rfl
  · obtain ⟨d, b, l, x, rfl, ⟨a, ws, D⟩, hb, hl, hA⟩ := h
    obtain ⟨dx, hd⟩ := D.obj
    unfold recordX at hA
    refine ⟨_, rfl, b, x, rfl, hb, hl, fun e => ?_, fun ds H1 v e s1 r => ?_⟩
    · rw [e] at hA
      exact hA
    · obtain ⟨h14, hok⟩ := listed_ok e
      rw [e] at hA
      obtain ⟨a', ws', rfl, h1, h2⟩ := r
      have na := (New.out h1).1
      have h1 := New.sub _ _ h1
      have h2 : All2 (DeedAt H1) ds ws' := h2.mono fun _ _ z => z.same New.sub
      have hd1 := s1 _ _ hd
      refine ⟨_, rfl, d, _, dx, _, rfl, hd1, T.Desk.cl, T.n_Desk_deeds, (by show 1 < 1000; decide), ?_⟩
      rw [dkF_put]
      have D2 : Dk T.Desk.C (upd H1 d (.ins T.Desk.C dx (dkF a'))) d ds a' ws' := Dk.put ⟨_, _, hd1⟩ ⟨h1, h2⟩ h14 hok
      have b2 : But d H (upd H1 d (.ins T.Desk.C dx (dkF a'))) := (But.of s1).trans But.wr
      have hd2 : (upd H1 d (.ins T.Desk.C dx (dkF a'))) d = some (.ins T.Desk.C dx (dkF a')) := upd_same
      generalize upd H1 d (.ins T.Desk.C dx (dkF a')) = H2 at D2 b2 hd2 ⊢
      refine ⟨_, rfl, d, _, dx, _, _, rfl, hd2, T.Desk.cl, T.n_Desk_deeds, dkF_deeds, a', ws', rfl, .inl (SqL.of D2.rc.at_), by show 1 ≤ sizeLine; decide, fun L hL => ?_⟩
      refine hA _ L (b2.trans (But.of (Same.new hL))) ((Dom.but b2 ⟨_, hd2⟩).none hL) ⟨a', ws', D2.same (Same.new hL), .inl na⟩ ?_
      rw [upd_same, D2.len]
      rfl
/-- add -/
def addX (l : List Deed) (x : List Int) : Except Int (List Deed × List Int) := match whole readDeed x with
  | none => .error (-1)
  | some d => if 14 ≤ l.length then .error (-6) else .ok (l ++ [d], [((l.length + 1 : Nat) : Int)])
theorem sc_Desk_do_add : FnScope ["self", "some", "deed"] ["self", "some"] (defScope s_Desk_do_add) := ⟨rfl, rfl, rfl, by decide +kernel, rfl, by decide +kernel, by decide +kernel⟩
theorem ok_Desk_do_add {P : Program} {w : World} {K : PySem.W.Frag} {mg : Str → Option Value} {base : Heap} (T : Txt K mg) : FnOk P w K mg base (L2.CX P w) 7 T.Desk_do_add.f T.Desk_do_add.fd ["self", "some"] (spDesk1 K T.Desk.C T.Ref addX) := by
  refine T.Desk_do_add.F.okX sc_Desk_do_add (fun vs H Q E h => ?_) (fun cdv A outer s H vs Q E hr h => ⟨_, (pss_cons (ps_set (i := 2) sc_Desk_do_add.nd rfl (Or.inl rfl) (pe_call (ok_whole_deed T) (hr.mono (by decide)) rfl T.whole_deed.g T.whole_deed.k T.whole_deed.b .nil (passes_call (takes_of rfl rfl rfl rfl) fun _ _ _ _ h => h) (by exact (pa_cons (pv 1) pa_nil))))
    (pss_cons (ps_expr (pe_call (ok_want T) (hr.mono (by decide)) rfl T.want.g T.want.k T.want.b .nil (passes_call (takes_of rfl rfl rfl rfl) fun _ _ _ _ h => h) (by exact (pa_cons (pe_cmpR op_lt (pe_callB (call_lenK (K := K)) (by rfl) T.z_len PySem.boot_len (by exact (pa_cons (pe_fldK (K := K) (pv 0) rfl) pa_nil))) (pe_cst (by rfl) T.c_MOST_DEEDS) (nomark _)) (pa_cons (pe_cst (by rfl) T.c_FULL_desk) pa_nil)))))
    (pss_cons (ps_fldK (K := K) (pv 0) (pe_op op_cat (pe_fldK (K := K) (pv 0) rfl) (pe_lst (by exact (pa_cons (pv 2) pa_nil)))) rfl)
    (pss_one (ps_ret (pe_lst (by exact (pa_cons (pe_callB (call_lenK (K := K)) (by rfl) T.z_len PySem.boot_len (by exact (pa_cons (pe_fldK (K := K) (pv 0) rfl) pa_nil))) pa_nil)))))))), ?_⟩)
  · obtain ⟨d, b, l, x, rfl, _⟩ := h
    rfl
  · obtain ⟨d, b, l, x, rfl, ⟨a, ws, D⟩, hb, hl, hA⟩ := h
    obtain ⟨dx, hd⟩ := D.obj
    have hlen := D.len
    have hfew := D.few
    unfold addX at hA
    refine ⟨_, rfl, b, x, rfl, hb, hl, fun e => ?_, fun dd H1 v e s1 r => ?_⟩
    · rw [e] at hA
      exact hA
    · have hokd := deed_ok e
      rw [e] at hA
      have hv := r.same New.sub
      have D1 := D.same s1
      have hd1 := s1 _ _ hd
      refine ⟨_, rfl, d, _, dx, _, _, rfl, hd1, T.Desk.cl, T.n_Desk_deeds, dkF_deeds, a, ws, rfl, .inl (SqL.of D1.rc.at_), _, _, rfl, rfl, _, _, rfl, fun h => ?_, fun h => ?_⟩
      · have h := of_decide_eq_true h
        have hA : Ans T.Desk.C T.Ref H d Q E (if 14 ≤ l.length then .error (-6) else .ok (l ++ [dd], [((l.length + 1 : Nat) : Int)])) := hA
        rw [if_neg (by omega)] at hA
        refine ⟨_, rfl, d, _, dx, _, _, rfl, hd1, T.Desk.cl, T.n_Desk_deeds, dkF_deeds, _, rfl, by show 1 ≤ sizeLine; decide, fun y hy => ?_⟩
        have s2 := Same.new (o := .lst [v]) hy
        refine ⟨a, y, _, _, rfl, rfl, s2 _ _ D1.rc.at_, upd_same, Nat.le_of_lt (small1000 (by show ws.length + 1 ≤ _; omega)), fun z hz => ?_⟩
        have nz := (Dom.of (s1.trans s2)).none hz
        have s3 := s2.trans (Same.new (o := .lst (ws ++ [v])) hz)
        have hz3 : (upd (upd H1 y (.lst [v])) z (.lst (ws ++ [v]))) z = some (.lst (ws ++ [v])) := upd_same
        generalize upd (upd H1 y (.lst [v])) z (.lst (ws ++ [v])) = H3 at s3 hz3 ⊢
        have hd3 := s3 _ _ hd1
        have R3 : Rec H3 (l ++ [dd]) z (ws ++ [v]) := ⟨hz3, (D1.same s3).rc.all.snoc (hv.same s3)⟩
        refine ⟨_, rfl, d, _, dx, _, rfl, hd3, T.Desk.cl, T.n_Desk_deeds, (by show 1 < 1000; decide), ?_⟩
        rw [dkF_put]
        have D4 : Dk T.Desk.C (upd H3 d (.ins T.Desk.C dx (dkF z))) d (l ++ [dd]) z (ws ++ [v]) := Dk.put ⟨_, _, hd3⟩ R3 (by rw [List.length_append]; show l.length + 1 ≤ 14; omega) (by rw [List.all_append, D.ok]; simp [hokd])
        have b4 : But d H (upd H3 d (.ins T.Desk.C dx (dkF z))) := (But.of (s1.trans s3)).trans But.wr
        have hd4 : (upd H3 d (.ins T.Desk.C dx (dkF z))) d = some (.ins T.Desk.C dx (dkF z)) := upd_same
        generalize upd H3 d (.ins T.Desk.C dx (dkF z)) = H4 at D4 b4 hd4 ⊢
        refine ⟨_, rfl, d, _, dx, _, _, rfl, hd4, T.Desk.cl, T.n_Desk_deeds, dkF_deeds, z, _, rfl, .inl (SqL.of D4.rc.at_), by show 1 ≤ sizeLine; decide, fun L hL => ?_⟩
        refine hA _ L (b4.trans (But.of (Same.new hL))) ((Dom.but b4 ⟨_, hd4⟩).none hL) ⟨z, _, D4.same (Same.new hL), .inl nz⟩ ?_
        rw [upd_same, D4.len, List.length_append]
        rfl
      · have h := of_decide_eq_false h
        have hA : Ans T.Desk.C T.Ref H d Q E (if 14 ≤ l.length then .error (-6) else .ok (l ++ [dd], [((l.length + 1 : Nat) : Int)])) := hA
        rw [if_pos (by omega)] at hA
        exact ErrS.mono hA s1
end My
namespace My
open PySem PySem.Spec PyProof.Rows L2
open VamacBase (Deed Prog Table Reader readDeed readTimes readListed readTable readProg whole flatTable flatDeeds flatDeed flatProg flatPieces okPieces)
open Vamacb (isCounted lengthOf unroll unrollFrom foldings leastOf)
/-! ### a list of deeds as data -/
theorem canLay_deed (d : Deed) : (deedD d).canLay0 = true := by
  unfold deedD
  cases fldOf d <;> cases numOf d <;> rfl
theorem depth_deed (d : Deed) : (deedD d).depth = 1 := by
  unfold deedD
  cases fldOf d <;> cases numOf d <;> rfl
theorem canLay_deeds : ∀ l : List Deed, PyData.canLayAll0 (l.map deedD) = true
  | [] => rfl
  | d :: l => by
    show ((deedD d).canLay0 && PyData.canLayAll0 (l.map deedD)) = true
    rw [canLay_deed, canLay_deeds l]
    rfl
theorem depth_deeds : ∀ l : List Deed, PyData.depthAll (l.map deedD) ≤ 1
  | [] => Nat.zero_le _
  | d :: l => by
    show max (deedD d).depth (PyData.depthAll (l.map deedD)) ≤ 1
    have := depth_deeds l
    rw [depth_deed]
    omega
theorem shaped_deeds (l : List Deed) : SeqAt.shaped (.list (l.map deedD)) = true := by
  have h := depth_deeds l
  show (PyData.canLayAll0 (l.map deedD) && decide (PyData.depthAll (l.map deedD) + 1 ≤ 64)) = true
  rw [canLay_deeds, decide_eq_true (by omega)]
  rfl
theorem dp_deeds {K : PySem.W.Frag} {H : Hp} : ∀ {l : List Deed} {vs : List V}, All2 (DeedAt H) l vs → DpAll K H vs (l.map deedD)
  | [], vs, h => by
    rw [h.of_nil]
    exact .nil
  | d :: l, vs, h => by
    obtain ⟨v, ws, rfl, h1, h2⟩ := h.of_cons
    exact .cons (dp_deed h1) (dp_deeds h2)
theorem eqv_nil (l : List Deed) : PyData.eqv (.list (l.map deedD)) (.list []) = l.isEmpty := by
  cases l with
  | nil => simp [PyData.eqv, PyData.eqvAll]
  | cons d l => simp [PyData.eqv, PyData.eqvAll]
theorem cut_last (xs : List V) : cutV xs none (some (-1)) = xs.dropLast := by
  unfold cutV
  have e1 : HT.sIx xs.length 0 none = 0 := rfl
  have e2 : HT.sIx xs.length xs.length (some (-1)) = xs.length - 1 := by
    show (if (-1 : Int) < 0 then ((-1 : Int) + (xs.length : Int)).toNat else min (-1 : Int).toNat xs.length) = _
    rw [if_pos (by decide)]
    omega
  rw [e1, e2, List.drop_zero, Nat.sub_zero, List.dropLast_eq_take]
/-- drop -/
def dropX (l : List Deed) : Except Int (List Deed × List Int) := if l.isEmpty = true then .error (-2) else .ok (l.dropLast, [((l.length - 1 : Nat) : Int)])
theorem sc_Desk_do_drop : FnScope ["self"] ["self"] (defScope s_Desk_do_drop) := ⟨rfl, rfl, rfl, by decide +kernel, rfl, by decide +kernel, by decide +kernel⟩
theorem ok_Desk_do_drop {P : Program} {w : World} {K : PySem.W.Frag} {mg : Str → Option Value} {base : Heap} (T : Txt K mg) : FnOk P w K mg base (L2.CX P w) 4 T.Desk_do_drop.f T.Desk_do_drop.fd ["self"] (spDesk0 T.Desk.C T.Ref dropX) := by
  refine T.Desk_do_drop.F.okX sc_Desk_do_drop (fun vs H Q E h => ?_) (fun cdv A outer s H vs Q E hr h => ⟨_, (pss_cons (ps_expr (pe_call (ok_want T) (hr.mono (by decide)) rfl T.want.g T.want.k T.want.b .nil (passes_call (takes_of rfl rfl rfl rfl) fun _ _ _ _ h => h) (by exact (pa_cons (pe_cmpR (op_neDK (K := K) hr.units) (pe_fldK (K := K) (pv 0) rfl) (pe_lst pa_nil) (nomark _)) (pa_cons (pe_cst (by rfl) T.c_NO_DEEDS) pa_nil)))))
    (pss_cons (ps_fldK (K := K) (pv 0) (pe_slice (sl_listK (K := K)) (pe_fldK (K := K) (pv 0) rfl) po_none (po_some (pe_un un_neg pe_int))) rfl)
    (pss_one (ps_ret (pe_lst (by exact (pa_cons (pe_callB (call_lenK (K := K)) (by rfl) T.z_len PySem.boot_len (by exact (pa_cons (pe_fldK (K := K) (pv 0) rfl) pa_nil))) pa_nil))))))), ?_⟩)
  · obtain ⟨d, l, rfl, _⟩ := h
    rfl
  · obtain ⟨d, l, rfl, ⟨a, ws, D⟩, hA⟩ := h
    obtain ⟨dx, hd⟩ := D.obj
    unfold dropX at hA
    refine ⟨_, rfl, d, _, dx, _, _, rfl, hd, T.Desk.cl, T.n_Desk_deeds, dkF_deeds, by show 0 ≤ sizeLine; decide, fun x hx => ?_⟩
    have s1 := Same.new (o := .lst []) hx
    have hx1 : (upd H x (.lst [])) x = some (.lst []) := upd_same
    generalize upd H x (.lst []) = H1 at s1 hx1 ⊢
    have D1 := D.same s1
    have hd1 := s1 _ _ hd
    refine ⟨_, _, .lst (SqL.of D1.rc.at_) (dp_deeds D1.rc.all), .lst (SqL.of hx1) .nil, shaped_deeds l, rfl, ?_⟩
    rw [eqv_nil]
    refine ⟨_, _, rfl, fun hc => ?_, fun hc => ?_⟩
    · have hc : l.isEmpty = false := by simpa using hc
      rw [if_neg (by rw [hc]; decide)] at hA
      refine ⟨_, rfl, d, _, dx, _, _, rfl, hd1, T.Desk.cl, T.n_Desk_deeds, dkF_deeds, _, rfl, _, rfl, a, ws, rfl, SqL.of D1.rc.at_, fun y hy => ?_⟩
      rw [cut_last]
      have ny := (Dom.of s1).none hy
      have s2 := Same.new (o := .lst ws.dropLast) hy
      have hy2 : (upd H1 y (.lst ws.dropLast)) y = some (.lst ws.dropLast) := upd_same
      generalize upd H1 y (.lst ws.dropLast) = H2 at s2 hy2 ⊢
      have hd2 := s2 _ _ hd1
      have hall : All2 (DeedAt H2) l.dropLast ws.dropLast := by
        rw [List.dropLast_eq_take, List.dropLast_eq_take, D.len]
        exact (D1.same s2).rc.all.take _
      refine ⟨_, rfl, d, _, dx, _, rfl, hd2, T.Desk.cl, T.n_Desk_deeds, (by show 1 < 1000; decide), ?_⟩
      rw [dkF_put]
      have D3 : Dk T.Desk.C (upd H2 d (.ins T.Desk.C dx (dkF y))) d l.dropLast y ws.dropLast := Dk.put ⟨_, _, hd2⟩ ⟨hy2, hall⟩ (by rw [List.length_dropLast]; have := D.few; omega) (by
        rw [List.all_eq_true]
        exact fun u hu => List.all_eq_true.mp D.ok u ((List.dropLast_sublist l).subset hu))
      have b3 : But d H (upd H2 d (.ins T.Desk.C dx (dkF y))) := (But.of (s1.trans s2)).trans But.wr
      have hd3 : (upd H2 d (.ins T.Desk.C dx (dkF y))) d = some (.ins T.Desk.C dx (dkF y)) := upd_same
      generalize upd H2 d (.ins T.Desk.C dx (dkF y)) = H3 at D3 b3 hd3 ⊢
      refine ⟨_, rfl, d, _, dx, _, _, rfl, hd3, T.Desk.cl, T.n_Desk_deeds, dkF_deeds, y, _, rfl, .inl (SqL.of D3.rc.at_), by show 1 ≤ sizeLine; decide, fun L hL => ?_⟩
      refine hA _ L (b3.trans (But.of (Same.new hL))) ((Dom.but b3 ⟨_, hd3⟩).none hL) ⟨y, _, D3.same (Same.new hL), .inl ny⟩ ?_
      rw [upd_same, D3.len, List.length_dropLast]
      rfl
    · have hc : l.isEmpty = true := by simpa using hc
      rw [if_pos hc] at hA
      exact ErrS.mono hA s1
/-! ### the least folding -/
theorem fold_best (l : List Deed) : (foldings l).best = some (leastOf l) := by
  rw [foldings_tab]
  exact least_best l
/-- least -/
def leastX (l : List Deed) : Except Int (List Deed × List Int) := .ok (l, ((leastOf l).size : Int) :: flatProg (leastOf l))
theorem sc_Desk_do_least : FnScope ["self", "many", "row"] ["self"] (defScope s_Desk_do_least) := ⟨rfl, rfl, rfl, by decide +kernel, rfl, by decide +kernel, by decide +kernel⟩
theorem ok_Desk_do_least {P : Program} {w : World} {K : PySem.W.Frag} {mg : Str → Option Value} {base : Heap} (T : Txt K mg) : FnOk P w K mg base CX0 7 T.Desk_do_least.f T.Desk_do_least.fd ["self"] (spDesk0 T.Desk.C T.Ref leastX) := by
  refine T.Desk_do_least.F.ok sc_Desk_do_least (fun vs H Q E h => ?_) (fun cdv A outer s H vs Q E hr h => ⟨_, (pss_cons (ps_asg (pe_call (ok_least_folding T) (hr.mono (by decide)) rfl T.least_folding.g T.least_folding.k T.least_folding.b .nil pass0 (by exact (pa_cons (pe_fldK (K := K) (pv 0) rfl) pa_nil))) (pg_tupK (K := K) (n := 2) (by rfl) (pgs_cons (pg_name (i := 1) sc_Desk_do_least.nd rfl (Or.inl rfl)) (pgs_cons (pg_name (i := 2) sc_Desk_do_least.nd rfl (Or.inl rfl)) pgs_nil))))
    (pss_one (ps_ret (pe_op op_cat (pe_lst (by exact (pa_cons (pv 1) pa_nil))) (pe_call (ok_row_told T) (hr.mono (by decide)) rfl T.row_told.g T.row_told.k T.row_told.b .nil pass0 (by exact (pa_cons (pv 2) pa_nil))))))), ?_⟩)
  · obtain ⟨d, l, rfl, _⟩ := h
    rfl
  · obtain ⟨d, l, rfl, ⟨a, ws, D⟩, hA⟩ := h
    obtain ⟨dx, hd⟩ := D.obj
    have hfew := D.few
    refine ⟨_, rfl, d, _, dx, _, _, rfl, hd, T.Desk.cl, T.n_Desk_deeds, dkF_deeds, l, a, ws, rfl, D.rc, D.few, D.ok, fun H1 v s1 hv => ?_⟩
    rw [fold_best] at hv
    obtain ⟨t, r, ys, rfl, h2, h3, h4⟩ := hv
    have g := good_least D.ok
    have hsz := g.small
    have hfl := flatp_le (leastOf l)
    have D1 := D.same s1
    refine ⟨t, _, rfl, SqT.of (New.sub _ _ h2), rfl, _, _, rfl, _, _, rfl, rfl, ?_⟩
    refine ⟨_, rfl, by show 1 ≤ sizeLine; decide, fun x hx => ?_⟩
    have s2 := Same.new (o := .lst [V.int ((leastOf l).size : Nat)]) hx
    have hx2 : (upd H1 x (.lst [V.int ((leastOf l).size : Nat)])) x = some (.lst [V.int ((leastOf l).size : Nat)]) := upd_same
    generalize upd H1 x (.lst [V.int ((leastOf l).size : Nat)]) = H2 at s2 hx2 ⊢
    have hrow : RowAt H2 (leastOf l) (.ref r) := ⟨r, ys, rfl, s2 _ _ (New.sub _ _ h3), h4 H2 (D1.same s2).rc (New.sub.trans s2)⟩
    refine ⟨_, rfl, .ref r, leastOf l, rfl, hrow, Nat.le_trans g.deep (by decide), g.plain, by omega, fun H3 M s3 nM hM => ?_⟩
    refine ⟨x, M, _, _, rfl, rfl, s3 _ _ hx2, hM, Nat.le_of_lt (small6 (by rw [List.length_map]; show 1 + ((flatPieces (leastOf l)).length + 1) ≤ 6000; omega)), fun L hL => ?_⟩
    have s4 := s1.trans (s2.trans s3)
    refine hA _ L (But.of (s4.trans (Same.new hL))) ((Dom.of s4).none hL) ⟨a, ws, D.same (s4.trans (Same.new hL)), .inr ⟨dx, hd⟩⟩ ?_
    rw [upd_same]
    rfl
/-- next -/
def nextX (l : List Deed) : Except Int (List Deed × List Int) := .ok (l, match Vamacb.guess l with
  | none => [0]
  | some g => 1 :: ((g.period : Nat) : Int) :: ((g.tail : Nat) : Int) :: flatDeed g.deed)
theorem sc_Desk_do_next : FnScope ["self", "best", "period", "tail"] ["self"] (defScope s_Desk_do_next) := ⟨rfl, rfl, rfl, by decide +kernel, rfl, by decide +kernel, by decide +kernel⟩
theorem ok_Desk_do_next {P : Program} {w : World} {K : PySem.W.Frag} {mg : Str → Option Value} {base : Heap} (T : Txt K mg) : FnOk P w K mg base CX0 5 T.Desk_do_next.f T.Desk_do_next.fd ["self"] (spDesk0 T.Desk.C T.Ref nextX) := by
  refine T.Desk_do_next.F.ok sc_Desk_do_next (fun vs H Q E h => ?_) (fun cdv A outer s H vs Q E hr h => ⟨_, (pss_cons (ps_set (i := 1) sc_Desk_do_next.nd rfl (Or.inl rfl) (pe_call (ok_best_period T) (hr.mono (by decide)) rfl T.best_period.g T.best_period.k T.best_period.b .nil pass0 (by exact (pa_cons (pe_fldK (K := K) (pv 0) rfl) pa_nil))))
    (pss_cons (ps_if (pt_cmp (pc_isN (pv 1)))
    (pss_one (ps_ret (pe_lst (by exact (pa_cons pe_int pa_nil)))))
    pss_nil)
    (pss_cons (ps_asg (pv 1) (pg_tupK (K := K) (n := 2) (by rfl) (pgs_cons (pg_name (i := 2) sc_Desk_do_next.nd rfl (Or.inl rfl)) (pgs_cons (pg_name (i := 3) sc_Desk_do_next.nd rfl (Or.inl rfl)) pgs_nil))))
    (pss_one (ps_ret (pe_op op_cat (pe_lst (by exact (pa_cons pe_int (pa_cons (pv 2) (pa_cons (pv 3) pa_nil))))) (pe_call (ok_deed_told T) (hr.mono (by decide)) rfl T.deed_told.g T.deed_told.k T.deed_told.b .nil pass0 (by exact (pa_cons (pe_call (ok_next_deed T) (hr.mono (by decide)) rfl T.next_deed.g T.next_deed.k T.next_deed.b .nil pass0 (by exact (pa_cons (pe_fldK (K := K) (pv 0) rfl) (pa_cons (pv 2) (pa_cons (pv 3) pa_nil))))) pa_nil))))))))), ?_⟩)
  · obtain ⟨d, l, rfl, _⟩ := h
    rfl
  · obtain ⟨d, l, rfl, ⟨a, ws, D⟩, hA⟩ := h
    obtain ⟨dx, hd⟩ := D.obj
    have hfew := D.few
    unfold nextX at hA
    rw [guess_eq] at hA
    refine ⟨_, rfl, d, _, dx, _, _, rfl, hd, T.Desk.cl, T.n_Desk_deeds, dkF_deeds, l, a, ws, rfl, D.rc, D.few, fun H1 v s1 hv => ?_⟩
    have D1 := D.same s1
    have hd1 := s1 _ _ hd
    cases hb : bestP l (l.length - 1) with
    | none =>
      rw [hb] at hv hA
      obtain rfl : v = .non := hv
      refine ⟨_, rfl, _, rfl, iteT ⟨by show 1 ≤ sizeLine; decide, fun L hL => ?_⟩⟩
      have s2 := s1.trans (Same.new (o := .lst [V.int 0]) hL)
      exact hA _ L (But.of s2) ((Dom.of s1).none hL) ⟨a, ws, D.same s2, .inr ⟨dx, hd⟩⟩ upd_same
    | some mt =>
      obtain ⟨m, t⟩ := mt
      rw [hb] at hv hA
      obtain ⟨r, rfl, hr⟩ := hv
      obtain ⟨hm, hmn, ht, hmt⟩ := bestP_mem hb
      have htl := tailFrom_le l m l.length
      refine ⟨_, rfl, _, rfl, iteF ⟨_, rfl, r, _, rfl, SqT.of hr, rfl, _, _, rfl, _, _, rfl, rfl, ?_⟩⟩
      refine ⟨_, rfl, _, rfl, by show 3 ≤ sizeLine; decide, fun x hx => ?_⟩
      have s2 := Same.new (o := .lst [V.int 1, V.int (m : Nat), V.int (t : Nat)]) hx
      have hx2 : (upd H1 x (.lst [V.int 1, V.int (m : Nat), V.int (t : Nat)])) x = some (.lst [V.int 1, V.int (m : Nat), V.int (t : Nat)]) := upd_same
      generalize upd H1 x (.lst [V.int 1, V.int (m : Nat), V.int (t : Nat)]) = H2 at s2 hx2 ⊢
      have hd2 := s2 _ _ hd1
      have D2 := D1.same s2
      refine ⟨_, rfl, d, _, dx, _, _, rfl, hd2, T.Desk.cl, T.n_Desk_deeds, dkF_deeds, _, rfl, _, rfl, l, a, ws, m, t, rfl, D2.rc, D.few, hm, by omega, by omega, fun h2m => ?_, fun H3 v3 s3 hv3 => ?_⟩
      · exact next_alike hm h2m (by omega) (by rw [ht]; exact tailFrom_show l m l.length (by omega))
      · refine ⟨v3, _, rfl, hv3, fun H4 M s4 nM hM => ?_⟩
        have hfl := flat_le (nextPy l m t)
        refine ⟨x, M, _, _, rfl, rfl, s4 _ _ (s3 _ _ hx2), hM, Nat.le_of_lt (small6 (by rw [List.length_map]; show 3 + _ ≤ 6000; omega)), fun L hL => ?_⟩
        have s5 := s1.trans (s2.trans (s3.trans s4))
        refine hA _ L (But.of (s5.trans (Same.new hL))) ((Dom.of s5).none hL) ⟨a, ws, D.same (s5.trans (Same.new hL)), .inr ⟨dx, hd⟩⟩ ?_
        rw [upd_same]
        rfl
/-- loops -/
def loopsX (l : List Deed) : Except Int (List Deed × List Int) := .ok (l, ((Vamacb.loopsOf l).length : Int) :: (Vamacb.loopsOf l).flatMap fun x => [((x.1 : Nat) : Int), ((x.2.1 : Nat) : Int), ((x.2.2 : Nat) : Int)])
theorem loops3 : ∀ A : List (PK × Nat), (A.flatMap fun e => [((e.1.1 : Nat) : Int), ((e.1.2 : Nat) : Int), ((e.2 : Nat) : Int)]).length = 3 * A.length
  | [] => rfl
  | e :: A => by
    rw [List.flatMap_cons, List.length_append, loops3 A]
    show 3 + 3 * A.length = 3 * (A.length + 1)
    omega
theorem sc_Desk_do_loops : FnScope ["self", "some", "found", "place", "length", "rounds"] ["self"] (defScope s_Desk_do_loops) := ⟨rfl, rfl, rfl, by decide +kernel, rfl, by decide +kernel, by decide +kernel⟩
theorem ok_Desk_do_loops {P : Program} {w : World} {K : PySem.W.Frag} {mg : Str → Option Value} {base : Heap} (T : Txt K mg) : FnOk P w K mg base CX0 5 T.Desk_do_loops.f T.Desk_do_loops.fd ["self"] (spDesk0 T.Desk.C T.Ref loopsX) := by
  refine T.Desk_do_loops.F.ok sc_Desk_do_loops (fun vs H Q E h => ?_) (fun cdv A outer s H vs Q E hr h => ⟨_, (pss_cons (ps_set (i := 1) sc_Desk_do_loops.nd rfl (Or.inl rfl) (pe_call (ok_plain_loops T) (hr.mono (by decide)) rfl T.plain_loops.g T.plain_loops.k T.plain_loops.b .nil pass0 (by exact (pa_cons (pe_fldK (K := K) (pv 0) rfl) pa_nil))))
    (pss_cons (ps_set (i := 2) sc_Desk_do_loops.nd rfl (Or.inl rfl) (pe_lst (by exact (pa_cons (pe_callB (call_lenK (K := K)) (by rfl) T.z_len PySem.boot_len (by exact (pa_cons (pv 1) pa_nil))) pa_nil))))
    (pss_cons (ps_for PassesOwn.never rfl (pi_listK (K := K) (pv 1)) (pg_tupK (K := K) (n := 3) (by rfl) (pgs_cons (pg_name (i := 3) sc_Desk_do_loops.nd rfl (Or.inl rfl)) (pgs_cons (pg_name (i := 4) sc_Desk_do_loops.nd rfl (Or.inl rfl)) (pgs_cons (pg_name (i := 5) sc_Desk_do_loops.nd rfl (Or.inl rfl)) pgs_nil))))
    (pss_one (ps_expr (pe_bm PySem.F.plainAttrs_list PySem.F.slot_list_extend PySem.F.type_list_extend mt_extend (pv 2) (by exact (pa_cons (pe_lst (by exact (pa_cons (pv 3) (pa_cons (pv 4) (pa_cons (pv 5) pa_nil))))) pa_nil))))))
    (pss_one (ps_ret (pv 2)))))), ?_⟩)
  · obtain ⟨d, l, rfl, _⟩ := h
    rfl
  · obtain ⟨d, l, rfl, ⟨a, ws, D⟩, hA⟩ := h
    obtain ⟨dx, hd⟩ := D.obj
    have hfew := D.few
    unfold loopsX at hA
    have hle := dictL_le hfew l.length
    rw [dictL_eq] at hle
    rw [loops_eq, List.length_map, List.flatMap_map] at hA
    refine ⟨_, rfl, d, _, dx, _, _, rfl, hd, T.Desk.cl, T.n_Desk_deeds, dkF_deeds, l, a, ws, rfl, D.rc, D.few, fun H1 S ys s1 nS hS hy => ?_⟩
    generalize allP l l.length = A at hle hA hy
    have hyl : ys.length = A.length := hy.1.symm
    refine ⟨_, rfl, S, ys, rfl, .inl (SqL.of hS), by show 1 ≤ sizeLine; decide, fun L hL => ?_⟩
    rw [hyl]
    have s2 := Same.new (o := .lst [V.int (A.length : Nat)]) hL
    have hL2 : (upd H1 L (.lst [V.int (A.length : Nat)])) L = some (.lst [V.int (A.length : Nat)]) := upd_same
    generalize upd H1 L (.lst [V.int (A.length : Nat)]) = H2 at s2 hL2 ⊢
    refine ⟨_, rfl, S, rfl, ⟨ys, SqL.of (s2 _ _ hS)⟩, for_list (K := K) (a := S) (xs := ys) (fun i σ H' => ∃ u v w, σ = [some (.ref d), some (.ref S), some (.ref L), u, v, w] ∧ Same H1 H' ∧ H' L = some (.lst (((A.length : Int) :: (A.take i).flatMap fun e => [((e.1.1 : Nat) : Int), ((e.1.2 : Nat) : Int), ((e.2 : Nat) : Int)]).map V.int))) ⟨_, _, _, rfl, s2, hL2⟩ (fun i σ H' _ ⟨_, _, _, _, s, _⟩ => SqL.of (s _ _ hS)) ?_ ?_⟩
    · rintro i x σ H3 hi ⟨u, v, w, rfl, s3, h3⟩
      obtain ⟨e, he, t, rfl, ht⟩ := hy.getV hi
      have hil : i < A.length := (List.getElem?_eq_some_iff.mp he).1
      have h3l := loops3 (A.take i)
      rw [List.length_take] at h3l
      refine ⟨t, _, rfl, SqT.of (s3 _ _ ht), rfl, _, _, rfl, _, _, rfl, _, _, rfl, rfl, ?_⟩
      refine ⟨_, rfl, tyL h3, _, rfl, _, rfl, _, rfl, by show 3 ≤ sizeLine; decide, fun z hz => ?_⟩
      have s4 := Same.new (o := .lst [V.int (e.1.1 : Nat), V.int (e.1.2 : Nat), V.int (e.2 : Nat)]) hz
      refine ⟨L, z, _, _, rfl, rfl, s4 _ _ h3, upd_same, Nat.le_of_lt (small6 (by rw [List.length_map, List.length_cons, h3l]; show _ + 3 ≤ 6000; omega)), _, _, _, rfl, Same.mut (s3.trans s4) hL, ?_⟩
      rw [upd_same, take_one he, List.flatMap_append, List.map_cons, List.map_cons, List.map_append]
      rfl
    · rintro σ H3 ⟨u, v, w, rfl, s3, h3⟩
      rw [hyl, List.take_length] at h3
      have s4 := s1.trans s3
      exact ⟨_, rfl, hA H3 L (But.of s4) ((Dom.of s1).none hL) ⟨a, ws, D.same s4, .inr ⟨dx, hd⟩⟩ h3⟩
/-- play -/
def playX (l : List Deed) (x : List Int) : Except Int (List Deed × List Int) := match whole readTable x with
  | none => .error (-1)
  | some t => .ok (l, (runPy t (unroll (leastOf l)) 0).1 :: (((runPy t (unroll (leastOf l)) 0).2.1 : Nat) : Int) :: flatTable (runPy t (unroll (leastOf l)) 0).2.2)
theorem table_okd {x : List Int} {t : Table} (h : whole readTable x = some t) : TabOk t := by
  rw [whole_table] at h
  exact tabOk_of (rdTable_ok (whole_in h))
theorem sc_Desk_do_play : FnScope ["self", "some", "table", "ended", "many"] ["self", "some"] (defScope s_Desk_do_play) := ⟨rfl, rfl, rfl, by decide +kernel, rfl, by decide +kernel, by decide +kernel⟩
theorem ok_Desk_do_play {P : Program} {w : World} {K : PySem.W.Frag} {mg : Str → Option Value} {base : Heap} (T : Txt K mg) : FnOk P w K mg base (L2.CX P w) 7 T.Desk_do_play.f T.Desk_do_play.fd ["self", "some"] (spDesk1 K T.Desk.C T.Ref playX) := by
  refine T.Desk_do_play.F.okX sc_Desk_do_play (fun vs H Q E h => ?_) (fun cdv A outer s H vs Q E hr h => ⟨_, (pss_cons (ps_set (i := 2) sc_Desk_do_play.nd rfl (Or.inl rfl) (pe_call (ok_whole_table T) (hr.mono (by decide)) rfl T.whole_table.g T.whole_table.k T.whole_table.b .nil (passes_call (takes_of rfl rfl rfl rfl) fun _ _ _ _ h => h) (by exact (pa_cons (pv 1) pa_nil))))
    (pss_cons (ps_asg (pe_call (ok_run_on T) (hr.mono (by decide)) rfl T.run_on.g T.run_on.k T.run_on.b .nil pass0 (by exact (pa_cons (pv 2) (pa_cons (pe_call (ok_told_by T) (hr.mono (by decide)) rfl T.told_by.g T.told_by.k T.told_by.b .nil pass0 (by exact (pa_cons (pe_ix (ix_tupK (K := K)) (pe_call (ok_least_folding T) (hr.mono (by decide)) rfl T.least_folding.g T.least_folding.k T.least_folding.b .nil pass0 (by exact (pa_cons (pe_fldK (K := K) (pv 0) rfl) pa_nil))) pe_int (fun _ _ => rfl)) (pa_cons pe_int pa_nil)))) pa_nil)))) (pg_tupK (K := K) (n := 2) (by rfl) (pgs_cons (pg_name (i := 3) sc_Desk_do_play.nd rfl (Or.inl rfl)) (pgs_cons (pg_name (i := 4) sc_Desk_do_play.nd rfl (Or.inl rfl)) pgs_nil))))
    (pss_one (ps_ret (pe_op op_cat (pe_lst (by exact (pa_cons (pv 3) (pa_cons (pv 4) pa_nil)))) (pe_meth0 (pv 2) T.Table.cl T.Table_told.m (ok_Table_told T) (hr.mono (by decide)) T.Table_told.b .nil pass0)))))), ?_⟩)
  · obtain ⟨d, b, l, x, rfl, _⟩ := h
    rfl
  · obtain ⟨d, b, l, x, rfl, ⟨a, ws, D⟩, hb, hl, hA⟩ := h
    obtain ⟨dx, hd⟩ := D.obj
    have hfew := D.few
    unfold playX at hA
    refine ⟨_, rfl, b, x, rfl, hb, hl, fun e => ?_, fun t H1 v e s1 r => ?_⟩
    · rw [e] at hA
      exact hA
    · have O := table_okd e
      rw [e] at hA
      have hA : ∀ H' L, But d H H' → H L = none → DkN T.Desk.C H H' d l → H' L = some (.lst (((runPy t (unroll (leastOf l)) 0).1 :: (((runPy t (unroll (leastOf l)) 0).2.1 : Nat) : Int) :: flatTable (runPy t (unroll (leastOf l)) 0).2.2).map V.int)) → Q (.ref L) H' := hA
      obtain ⟨q, r, rs, rfl, A⟩ := r
      have A1 := A.new
      have hd1 := s1 _ _ hd
      refine ⟨_, rfl, _, rfl, d, _, dx, _, _, rfl, hd1, T.Desk.cl, T.n_Desk_deeds, dkF_deeds, l, a, ws, rfl, (D.same s1).rc, D.few, D.ok, fun H2 v2 s2 hv => ?_⟩
      rw [fold_best] at hv
      obtain ⟨tt, rr, ys, rfl, h2, h3, h4⟩ := hv
      have g := good_least D.ok
      have hrow : RowAt H2 (leastOf l) (.ref rr) := ⟨rr, ys, rfl, New.sub _ _ h3, h4 H2 ((D.same s1).same s2).rc New.sub⟩
      have htm : tmB (leastOf l) = true := by
        rw [tmB_U]
        exact g.rnd 1000 (by omega)
      have hlong := g.long
      refine ⟨tt, _, 1, _, rfl, rfl, SqT.of (New.sub _ _ h2), at1, .ref rr, leastOf l, 0, rfl, by omega, hrow, Nat.le_trans g.deep (by decide), g.plain, htm, by omega, fun H3 L xs s3 nL hL hx => ?_⟩
      have A3 := A1.same (s2.trans s3)
      -- all but the table
      let G : Hp := fun y => if y = q ∨ y = r ∨ V.ref y ∈ rs then none else H3 y
      have sG : Same G H3 := fun y o h => by
        show H3 y = some o
        have h : (if y = q ∨ y = r ∨ V.ref y ∈ rs then none else H3 y) = some o := h
        split at h
        · cases h
        · exact h
      have inG : ∀ y o, H3 y = some o → y ≠ q → y ≠ r → V.ref y ∉ rs → G y = some o := fun y o h n1 n2 n3 => by
        show (if y = q ∨ y = r ∨ V.ref y ∈ rs then none else H3 y) = some o
        rw [if_neg (by rintro (z | z | z); exact n1 z; exact n2 z; exact n3 z)]
        exact h
      have isRow : ∀ y, V.ref y ∈ rs → H y = none ∧ ∃ zs, H2 y = some (.lst zs) ∧ H3 y = some (.lst zs) := fun y hy => by
        obtain ⟨j, hj⟩ := List.mem_iff_getElem?.mp hy
        obtain ⟨row, _, u, eu, g1, _, g3⟩ := A1.rows.getV hj
        cases eu
        exact ⟨g1, _, s2 _ _ g3, s3 _ _ (s2 _ _ g3)⟩
      obtain ⟨tdx, hq1⟩ := A1.obj
      obtain ⟨tdx3, hq3⟩ := A3.obj
      have sHG : Same H G := fun y o h => inG y o (s3 _ _ (s2 _ _ (s1 _ _ h))) (ne_of_none h A1.gq) (ne_of_none h A1.gr) fun z => by
        have := (isRow y z).1
        rw [h] at this
        cases this
      have tupG : ∀ y zs, H3 y = some (.tup zs) → G y = some (.tup zs) := fun y zs h => inG y _ h (ne_of h hq3 (by intro z; cases z)) (ne_of h A3.lst (by intro z; cases z)) fun z => by
        obtain ⟨_, w, _, h'⟩ := isRow y z
        rw [h] at h'
        cases h'
      have hLG : G L = some (.lst xs) := inG L _ hL (fun z => by rw [z, s2 _ _ hq1] at nL; cases nL) (fun z => by rw [z, s2 _ _ A1.lst] at nL; cases nL) fun z => by
        obtain ⟨_, w, h', _⟩ := isRow L z
        rw [nL] at h'
        cases h'
      have hxG : All2 (DeedAt G) (unroll (leastOf l)) xs := hx.mono fun dd v ⟨p, e1, e2⟩ => ⟨p, e1, tupG _ _ e2⟩
      have AG : Tab T.Table.C G H3 q r rs t := ⟨A3.obj, if_pos (Or.inl rfl), A3.lst, if_pos (Or.inr (Or.inl rfl)), ⟨A3.rows.1, fun j row v hr hv => by
        obtain ⟨y, rfl, _, g2, g3⟩ := A3.rows.2 j row v hr hv
        exact ⟨y, rfl, if_pos (Or.inr (Or.inr (List.mem_of_getElem? hv))), g2, g3⟩⟩, A3.nd⟩
      have hul : (unroll (leastOf l)).length ≤ 60 := by
        have := unroll_len (leastOf l) g.plain 0
        show (unrollFrom (leastOf l) 0).length ≤ 60
        omega
      refine ⟨G, q, r, rs, t, unroll (leastOf l), L, xs, rfl, sG, ⟨hLG, hxG⟩, hul, unroll_okF _ g.fields 0, AG, O, fun H4 rs4 v4 s4 A4 O4 hv4 => ?_⟩
      obtain ⟨p4, rfl, hp4⟩ := hv4
      obtain ⟨tdx4, hq4⟩ := A4.obj
      have sH4 := sHG.trans s4
      generalize runPy t (unroll (leastOf l)) 0 = RR at hA A4 O4 hp4 hq4
      refine ⟨p4, _, rfl, SqT.of hp4, rfl, _, _, rfl, _, _, rfl, rfl, ?_⟩
      refine ⟨_, rfl, _, rfl, by show 2 ≤ sizeLine; decide, fun z hz => ?_⟩
      have s5 := Same.new (o := .lst [V.int RR.1, V.int (RR.2.1 : Nat)]) hz
      have hz5 : (upd H4 z (.lst [V.int RR.1, V.int (RR.2.1 : Nat)])) z = some (.lst [V.int RR.1, V.int (RR.2.1 : Nat)]) := upd_same
      generalize upd H4 z (.lst [V.int RR.1, V.int (RR.2.1 : Nat)]) = H5 at s5 hz5 ⊢
      refine ⟨_, rfl, q, tdx4, _, rfl, s5 _ _ hq4, tbF_m_told, G, q, r, rs4, _, rfl, A4.same s5, O4, fun H6 M s6 nM hM => ?_⟩
      have hfl := flat_len _ O4.wide
      have hrl := O4.rows
      have hft : (flatTable RR.2.2).length = RR.2.2.rows.flatten.length + 3 := by
        show (RR.2.2.rows.flatten ++ [((RR.2.2.at_ : Nat) : Int), RR.2.2.clip]).length + 1 = _
        rw [List.length_append]
        rfl
      refine ⟨z, M, _, _, rfl, rfl, s6 _ _ hz5, hM, Nat.le_of_lt (small6 (by rw [List.length_map, hft]; show 2 + (RR.2.2.rows.flatten.length + 3) ≤ 6000; omega)), fun N hN => ?_⟩
      have s7 := sH4.trans (s5.trans s6)
      refine hA _ N (But.of (s7.trans (Same.new hN))) ((Dom.of s7).none hN) ⟨a, ws, D.same (s7.trans (Same.new hN)), .inr ⟨dx, hd⟩⟩ ?_
      rw [upd_same]
      rfl
end My
/-! enumerate(zip(a, b)): the library's level -/
namespace PySem
namespace EZ
open Sem (wp)
/-- enumerate(z), z a zip: it is its own iterator -/
theorem meets_new (z TI TO : Addr) : Meets (Builtin.«enumerate.__new__» ⟨[.type "enumerate", .ref z], []⟩) (fun _ R s => IsZip s.heap z TI TO .none ∧
    R (.ok (.ret (.ref s.heap.objs.size))) { s with heap := s.heap.push { cls := .type "enumerate", data := .fields #[.none, .bool false, .ref z, rawInt 0, .none, .none] } }) :=
  .of_wp fun prog w A R s h => by
    obtain ⟨hp, g, d, tk, os⟩ := s; obtain ⟨hz, h⟩ := h
    have hsub := sub_enumerate
    have q1 : ∀ {A' : Around} {E : Value → Shared → Prop} {Q : Value → Shared → Prop}, Q (.ref z) ⟨hp, g, d, tk, os⟩ → wpAny (model prog w) A' (pyIter (.ref z)) Q E ⟨hp, g, d, tk, os⟩ :=
      fun q => wpAny_pyIter_zip (TI := TI) (TO := TO) (f0 := .none) hz q
    wp_walk using q1
    refine wpAny_stack_any fun st => wpAny_pure ?_
    split
    · rename_i c _ _ _ _ _
      cases (c == Value.type "enumerate")
      · wp_walk using q1
        exact ⟨_, rfl, h⟩
      · wp_walk using q1
        exact ⟨_, rfl, h⟩
    · wp_walk using q1
      exact ⟨_, rfl, h⟩
section
variable {prog : Program} {w : World} {A : Around} {E : Value → Shared → Prop} {s : Shared}
theorem call_enum {z TI TO : Addr} {Q : Value → Shared → Prop} (hz : IsZip s.heap z TI TO .none)
    (h : ∀ h', IsEnum h' s.heap.objs.size z 0 .none → h'.objs.size = s.heap.objs.size + 1 → (∀ b o, s.heap.get? b = some o → h'.get? b = some o) → Q (.ref s.heap.objs.size) { s with heap := h' }) :
    wpAny (model prog w) A (call (.type "enumerate") [.ref z]) Q E s := by
  refine callType_new F.called_enumerate (by decide) (F.typeCall_enumerate_1 _) (F.newCall_enumerate_1 _) (fun obj => F.args_object_init_2 obj _) F.entry_enumerate_new (meets_new z TI TO) ⟨hz, ?_⟩
  have he : IsEnum (s.heap.push { cls := .type "enumerate", data := .fields #[.none, .bool false, .ref z, rawInt 0, .none, .none] }) s.heap.objs.size z 0 .none := Heap.get?_push_size _ rfl
  exact ⟨⟨_, he, rfl⟩, h _ he (Heap.size_push ..) fun b o x => Heap.get?_push_of_some _ x⟩
/-- the zip's next, by what its __next__ does -/
theorem nextOf_of {z : Addr} {Q : Value → Shared → Prop} (hz : s.TypeIs (.ref z) "zip") (h : wpAny (model prog w) A.in1 (Builtin.«zip.__next__» ⟨[.ref z], []⟩) (fun fin s' => ∃ v, fin = .done (.ret v) ∧ Q v s') E s) :
    wpAny (model prog w) A (Builtin.SmallTypes.nextOf (.ref z)) Q E s := by
  unfold Builtin.SmallTypes.nextOf
  refine wpAny_bind (wpAny_callSpecial?_slot (name := Str.ofString "__next__") hz F.slot_zip_next (wpAny_call_entry F.slot_zip_next hz F.entry_zip_next ?_ (F.args_zip_next_1 _)))
  refine wpAny_mono h (fun fin s' x => ?_) fun _ _ x => x
  obtain ⟨v, e, q⟩ := x
  exact ⟨v, e, wpAny_pure q⟩
/-- enumerate's next, over whatever its iterator's next does -/
theorem enum_next {e z : Addr} {c : Int} {old : Value} {KK : Value → Heap → Prop} {Q : Value → Shared → Prop} (he : IsEnum s.heap e z c old)
    (hN : ∀ (Q1 : Value → Shared → Prop), (∀ x h1, KK x h1 → Q1 x { s with heap := h1 }) → wpAny (model prog w) A (Builtin.SmallTypes.nextOf (.ref z)) Q1 E s) (hK : ∀ x h1, KK x h1 → IsEnum h1 e z c old)
    (hQ : ∀ x h1 h2, KK x h1 → IsEnumOut h2 e z (c + 1) x h1.objs.size → h2.get? h1.objs.size = some { cls := .type "tuple", data := .seq #[.int c s.toks, x] } →
      (∀ b o, b ≠ e → h1.get? b = some o → h2.get? b = some o) → Q (.ref h1.objs.size) { s with heap := h2, toks := s.toks + 1 }) :
    wpAny (model prog w) A (Builtin.«enumerate.__next__» ⟨[.ref e], []⟩) (fun fin s' => ∃ v, fin = .done (.ret v) ∧ Q v s') E s := by
  obtain ⟨hp, g, d, tk, os⟩ := s
  show wpAny _ _ (field (.ref e) 2 >>= _) _ _ _
  refine wpAny_bind (wpAny_field he rfl (x := .ref z) rfl ?_)
  refine wpAny_bind (hN _ fun x h1 kx => ?_)
  have e1 := hK x h1 kx
  show wpAny _ _ (field (.ref e) 3 >>= _) _ _ ⟨h1, g, d, tk, os⟩
  refine wpAny_bind (wpAny_field e1 rfl (x := rawInt c) rfl ?_)
  show wpAny _ _ (field (.ref e) 4 >>= _) _ _ ⟨h1, g, d, tk, os⟩
  refine wpAny_bind (wpAny_field e1 rfl (x := .none) rfl ?_)
  show wpAny _ _ (mkInt c >>= _) _ _ ⟨h1, g, d, tk, os⟩
  refine wpAny_bind (wpAny_mkInt ?_)
  show wpAny _ _ (setField (.ref e) 3 (rawInt (c + 1)) >>= _) _ _ ⟨h1, g, d, tk + 1, os⟩
  refine wpAny_bind (wpAny_setField_rec e1 (by simp) fun h2 e2 k2 => ?_)
  replace k2 : Heap.SameBut e h1 h2 := k2
  replace e2 : IsEnum h2 e z (c + 1) old := e2
  show wpAny _ _ (setField (.ref e) 4 .none >>= _) _ _ ⟨h2, g, d, tk + 1, os⟩
  refine wpAny_bind (wpAny_setField_rec e2 (by simp) fun h3 e3 k3 => ?_)
  replace k3 : Heap.SameBut e h2 h3 := k3
  replace e3 : IsEnum h3 e z (c + 1) old := e3
  show wpAny _ _ (newTuple [.int c tk, x] >>= _) _ _ ⟨h3, g, d, tk + 1, os⟩
  refine wpAny_bind (wpAny_newTuple ?_)
  have size3 : h3.objs.size = h1.objs.size := by rw [k3.1, k2.1]
  have elt : e < h1.objs.size := Heap.lt_size e1
  have e4 : IsEnum (h3.push { cls := .type "tuple", data := .seq #[.int c tk, x] }) e z (c + 1) old := Heap.get?_push_of_some _ e3
  have t4 : (h3.push { cls := .type "tuple", data := .seq #[.int c tk, x] }).get? h1.objs.size = some { cls := .type "tuple", data := .seq #[.int c tk, x] } := by
    rw [← size3]
    exact Heap.get?_push_size _ rfl
  have k4 : ∀ b o, b ≠ e → h1.get? b = some o → (h3.push { cls := .type "tuple", data := .seq #[.int c tk, x] }).get? b = some o := fun b o hb q => Heap.get?_push_of_some _ (k3.extBut b o hb (k2.extBut b o hb q))
  show wpAny _ _ (Builtin.SmallTypes.ownedTupleIsFree (.ref e) >>= _) _ _ ⟨h3.push { cls := .type "tuple", data := .seq #[.int c tk, x] }, g, d, tk + 1, os⟩
  rw [size3]
  generalize h3.push { cls := .type "tuple", data := .seq #[.int c tk, x] } = h4 at e4 t4 k4 ⊢
  refine wpAny_bind ?_
  unfold Builtin.SmallTypes.ownedTupleIsFree
  refine wpAny_bind (wpAny_field e4 rfl (x := .none) rfl (wpAny_pure ?_))
  simp only [if_true]
  refine wpAny_bind (wpAny_rule ?_)
  refine wpAny_bind (wpAny_field e4 rfl (x := old) rfl ?_)
  refine wpAny_bind (wpAny_setField_rec e4 (by simp) fun h5 e5 k5 => ?_)
  replace k5 : Heap.SameBut e h4 h5 := k5
  replace e5 : IsEnum h5 e z (c + 1) x := e5
  show wpAny _ _ (Builtin.SmallTypes.ownedTupleHandOut (.ref e) (.ref h1.objs.size) >>= _) _ _ ⟨h5, g, d, tk + 1, os⟩
  refine wpAny_bind ?_
  unfold Builtin.SmallTypes.ownedTupleHandOut
  refine wpAny_bind (wpAny_setField_rec e5 (by simp) fun h6 e6 k6 => ?_)
  replace k6 : Heap.SameBut e h5 h6 := k6
  replace e6 : IsEnumOut h6 e z (c + 1) x h1.objs.size := e6
  refine wpAny_setField_rec e6 (by simp) fun h7 e7 k7 => ?_
  replace k7 : Heap.SameBut e h6 h7 := k7
  replace e7 : IsEnumOut h7 e z (c + 1) x h1.objs.size := e7
  have up : ∀ b o, b ≠ e → h4.get? b = some o → h7.get? b = some o := fun b o hb q => k7.extBut b o hb (k6.extBut b o hb (k5.extBut b o hb q))
  exact wpAny_bind (wpAny_letGo (wpAny_pure ⟨_, rfl, hQ x h1 h7 kx e7 (up _ _ (Nat.ne_of_gt elt) t4) fun b o hb q => up b o hb (k4 b o hb q)⟩))
theorem pyNext_enum {e z : Addr} {c : Int} {old : Value} {KK : Value → Heap → Prop} {Q : Option Value → Shared → Prop} (he : IsEnum s.heap e z c old)
    (hN : ∀ (E1 : Value → Shared → Prop) (Q1 : Value → Shared → Prop), (∀ x h1, KK x h1 → Q1 x { s with heap := h1 }) → wpAny (model prog w) A.in1 (Builtin.SmallTypes.nextOf (.ref z)) Q1 E1 s) (hK : ∀ x h1, KK x h1 → IsEnum h1 e z c old)
    (hQ : ∀ x h1 h2, KK x h1 → IsEnumOut h2 e z (c + 1) x h1.objs.size → h2.get? h1.objs.size = some { cls := .type "tuple", data := .seq #[.int c s.toks, x] } →
      (∀ b o, b ≠ e → h1.get? b = some o → h2.get? b = some o) → Q (some (.ref h1.objs.size)) { s with heap := h2, toks := s.toks + 1 }) :
    wpAny (model prog w) A (pyNext (.ref e)) Q E s := by
  have hT : s.TypeIs (.ref e) "enumerate" := ⟨_, he, rfl⟩
  unfold pyNext
  exact wpAny_bind (wpAny_attempt (wpAny_callSpecial?_slot (name := Str.ofString "__next__") hT F.slot_enumerate_next
    (wpAny_call_entry F.slot_enumerate_next hT F.entry_enumerate_next (enum_next he (hN _) hK fun x h1 h2 a b c d => wpAny_pure (hQ x h1 h2 a b c d)) (F.args_enumerate_next_1 _))))
theorem pyNext_enum_end {e z : Addr} {c : Int} {old : Value} {EE : Heap → Prop} {Q : Option Value → Shared → Prop} (he : IsEnum s.heap e z c old)
    (hN : ∀ (Q1 : Value → Shared → Prop) (E1 : Value → Shared → Prop), (∀ h1 x, EE h1 → (∃ o, h1.get? x = some o ∧ o.cls = .type "StopIteration") → E1 (.ref x) { s with heap := h1 }) → wpAny (model prog w) A.in1 (Builtin.SmallTypes.nextOf (.ref z)) Q1 E1 s)
    (hQ : ∀ h1, EE h1 → Q none { s with heap := h1 }) : wpAny (model prog w) A (pyNext (.ref e)) Q E s := by
  have hT : s.TypeIs (.ref e) "enumerate" := ⟨_, he, rfl⟩
  unfold pyNext
  refine wpAny_bind (wpAny_attempt (wpAny_callSpecial?_slot (name := Str.ofString "__next__") hT F.slot_enumerate_next
    (wpAny_call_entry F.slot_enumerate_next hT F.entry_enumerate_next ?_ (F.args_enumerate_next_1 _))))
  show wpAny _ _ (field (.ref e) 2 >>= _) _ _ _
  refine wpAny_bind (wpAny_field he rfl (x := .ref z) rfl ?_)
  refine wpAny_bind (hN _ _ fun h1 x hx ho => ?_)
  obtain ⟨o, h2, hc⟩ := ho
  refine wpAny_bind (wpAny_isInstance (T := "StopIteration") (b := true) ⟨o, h2, hc⟩ isSubtype_stop ?_)
  exact wpAny_pure (hQ h1 hx)
end
end EZ
end PySem
namespace My
open PySem PySem.Spec PyProof.Rows L2
/-! ### for t in enumerate(zip(a, b)) -/
/-- tracked tuples stay -/
def TupK (H H' : Hp) : Prop := ∀ c zs, H c = some (.tup zs) → H' c = some (.tup zs)
def tForEZ (K : PySem.W.Frag) (ta : TA) (g : TG) (tb : TS) : TS := fun D σ H => ta σ H fun vs H1 => ∃ (a b : Addr) (xs ys : List V), vs = [.ref a, .ref b] ∧ ∃ W : Nat → L2.St → Hp → Prop, W 0 σ H1 ∧ (∀ i σ H', W i σ H' → SqL K H' a xs ∧ SqL K H' b ys) ∧ ∀ i σ H', W i σ H' →
  ((xs.length ≤ i ∨ ys.length ≤ i) → D.nx σ H') ∧
  ∀ x y T U, xs[i]? = some x → ys[i]? = some y → H' T = none → H' U = none → T ≠ U → g (.ref U) σ (upd (upd H' T (.tup [x, y])) U (.tup [.int (i : Nat), .ref T])) fun σ2 H3 =>
    tb { D with nx := fun σ' H4 => TupK (upd (upd H' T (.tup [x, y])) U (.tup [.int (i : Nat), .ref T])) H4 ∧ W (i + 1) σ' H4, ct := fun σ' H4 => TupK (upd (upd H' T (.tup [x, y])) U (.tup [.int (i : Nat), .ref T])) H4 ∧ W (i + 1) σ' H4, bk := D.nx } σ2 H3
/-- where the zip and the enumerate stand at a turn -/
structure EZAt (h : Heap) (H : Hp) (e z TI TO i1 i2 a b : Addr) (i : Nat) : Prop where
  en : ∃ old, IsEnum h e z ((i : Nat) : Int) old
  ti : IsPair h TI (.ref i1) (.ref i2)
  to : ∃ x y, IsPair h TO x y
  l1 : h.IsListIter i1 a i
  l2 : h.IsListIter i2 b i
  zp : IsZip h z TI TO .none ∨ ∃ T f zs, IsZipHeld h z TI TO T f ∧ H T = some (.tup zs)
section
variable {X : Cx}
theorem EZAt.obj {h : Heap} {H : Hp} {e z TI TO i1 i2 a b : Addr} {i : Nat} (S : EZAt h H e z TI TO i1 i2 a b i) : ∀ c ∈ [e, z, TI, TO, i1, i2], ∃ o, h.get? c = some o ∧ ∀ v, o.data ≠ .cell v := by
  intro c hc
  obtain ⟨⟨old, he⟩, h1, ⟨x, y, h2⟩, ⟨o1, h3, _, d1⟩, ⟨o2, h4, _, d2⟩, hz⟩ := S
  have hc : c = e ∨ c = z ∨ c = TI ∨ c = TO ∨ c = i1 ∨ c = i2 := by simpa using hc
  rcases hc with rfl | rfl | rfl | rfl | rfl | rfl
  · exact ⟨_, he, fun v q => nomatch q⟩
  · rcases hz with hz | ⟨T, f, zs, hz, _⟩
    · exact ⟨_, hz, fun v q => nomatch q⟩
    · exact ⟨_, hz, fun v q => nomatch q⟩
  · exact ⟨_, h1, fun v q => nomatch q⟩
  · exact ⟨_, h2, fun v q => nomatch q⟩
  · exact ⟨o1, h3, fun v q => by rw [d1] at q; cases q⟩
  · exact ⟨o2, h4, fun v q => by rw [d2] at q; cases q⟩
theorem EZAt.keep {h h' : Heap} {H H' : Hp} {e z TI TO i1 i2 a b : Addr} {i : Nat} (S : EZAt h H e z TI TO i1 i2 a b i) (k : ∀ c ∈ [e, z, TI, TO, i1, i2], ∀ o, h.get? c = some o → h'.get? c = some o) (t : TupK H H') : EZAt h' H' e z TI TO i1 i2 a b i := by
  obtain ⟨⟨old, he⟩, h1, ⟨x, y, h2⟩, h3, h4, hz⟩ := S
  refine ⟨⟨old, k e (by simp) _ he⟩, k TI (by simp) _ h1, ⟨x, y, k TO (by simp) _ h2⟩, h3.at fun o q => k i1 (by simp) o q, h4.at fun o q => k i2 (by simp) o q, ?_⟩
  rcases hz with hz | ⟨T, f, zs, hz, q⟩
  · exact .inl (k z (by simp) _ hz)
  · exact .inr ⟨T, f, zs, k z (by simp) _ hz, t _ _ q⟩
/-- what the zip's next leaves -/
structure ZNext (h h1 : Heap) (e z TI TO i1 i2 a b T : Addr) (i : Nat) (u u2 : Value) : Prop where
  ti : IsPair h1 TI (.ref i1) (.ref i2)
  to : ∃ x y, IsPair h1 TO x y
  l1 : h1.IsListIter i1 a (i + 1)
  l2 : h1.IsListIter i2 b (i + 1)
  pair : h1.get? T = some { cls := .type "tuple", data := .seq #[u, u2] }
  zp : ∃ T' f, IsZipHeld h1 z TI TO T' f ∧ (T' = T ∨ ∃ f', IsZipHeld h z TI TO T' f')
  size : h1.objs.size = h.objs.size + 1
  keep : ∀ c o, c ≠ z → c ≠ TO → c ≠ i1 → c ≠ i2 → h.get? c = some o → h1.get? c = some o
/-- the addresses, all apart -/
structure Apart6 (e z TI TO i1 i2 a b : Addr) : Prop where
  zip : ZipApart z TI TO i1 i2 a b
  ez : e ≠ z
  eTI : e ≠ TI
  eTO : e ≠ TO
  e1 : e ≠ i1
  e2 : e ≠ i2
theorem zip_turn {pins : List (Addr × Obj)} {s : Shared} {σ : L2.St} {H : Hp} {e z TI TO i1 i2 a b : Addr} {i : Nat} {us vs : List Value} {u u2 : Value} (I : Inv X pins σ H s) (D : Apart6 e z TI TO i1 i2 a b) (S : EZAt s.heap H e z TI TO i1 i2 a b i)
    (p : s.heap.IsList a us.toArray) (p2 : s.heap.IsList b vs.toArray) (hu : us[i]? = some u) (hu2 : vs[i]? = some u2) (A : Around) (E : Value → Shared → Prop) (Q1 : Value → Shared → Prop)
    (hQ : ∀ h1, ZNext s.heap h1 e z TI TO i1 i2 a b s.heap.objs.size i u u2 → Q1 (.ref s.heap.objs.size) { s with heap := h1 }) : wpAny (model X.prog X.w) A (Builtin.SmallTypes.nextOf (.ref z)) Q1 E s := by
  obtain ⟨_, h1, ⟨x, y, h2⟩, h3, h4, hz⟩ := S
  have hiT : TI ≠ z ∧ TI ≠ TO ∧ TI ≠ i1 ∧ TI ≠ i2 := ⟨D.zip.TIz, D.zip.TITO, D.zip.TIi1, D.zip.TIi2⟩
  rcases hz with hz | ⟨T, f, zs, hz, hT⟩
  · refine EZ.nextOf_of ⟨_, hz, rfl⟩ (zip_next_item D.zip hz h1 h2 h3 h4 p p2 (by simpa using hu) (by simpa using hu2) fun h' q1 q2 q3 q4 q5 q6 q7 => hQ h' ?_)
    exact ⟨q7 _ _ hiT.1 hiT.2.1 hiT.2.2.1 hiT.2.2.2 h1, ⟨_, _, q2⟩, q3, q4, q5, ⟨_, false, q1, .inl rfl⟩, q6, q7⟩
  · obtain ⟨_, its, r, o, ho, _⟩ := (show ObjOk X.prog X.w H s.heap T (.tup zs) from I.hok T _ hT)
    refine EZ.nextOf_of ⟨_, hz, rfl⟩ (zip_next_item_held D.zip hz ho h1 h3 h4 p p2 (by simpa using hu) (by simpa using hu2) fun h' q1 q3 q4 q5 q6 q7 => hQ h' ?_)
    exact ⟨q7 _ _ hiT.1 hiT.2.2.1 hiT.2.2.2 h1, ⟨_, _, q7 _ _ D.zip.TOz D.zip.TOi1 D.zip.TOi2 h2⟩, q3, q4, q5, ⟨T, true, q1, .inr ⟨f, hz⟩⟩, q6, fun c o c1 _ c3 c4 q => q7 c o c1 c3 c4 q⟩
theorem zip_stop {pins : List (Addr × Obj)} {s : Shared} {σ : L2.St} {H : Hp} {e z TI TO i1 i2 a b : Addr} {i : Nat} {us vs : List Value} (I : Inv X pins σ H s) (D : Apart6 e z TI TO i1 i2 a b) (S : EZAt s.heap H e z TI TO i1 i2 a b i)
    (p : s.heap.IsList a us.toArray) (p2 : s.heap.IsList b vs.toArray) (hend : us[i]? = none ∨ vs[i]? = none) (A : Around) (hA : A.handled = none) (Q1 : Value → Shared → Prop) (E : Value → Shared → Prop)
    (hE : ∀ h1 x, (∀ c o, c ≠ z → c ≠ TO → c ≠ i1 → c ≠ i2 → s.heap.get? c = some o → h1.get? c = some o) → (∃ o, h1.get? x = some o ∧ o.cls = .type "StopIteration") → E (.ref x) { s with heap := h1 }) : wpAny (model X.prog X.w) A (Builtin.SmallTypes.nextOf (.ref z)) Q1 E s := by
  obtain ⟨_, h1, ⟨x, y, h2⟩, h3, h4, hz⟩ := S
  have he : us.toArray[i]? = none ∨ vs.toArray[i]? = none := by simpa using hend
  rcases hz with hz | ⟨T, f, zs, hz, hT⟩
  · exact EZ.nextOf_of ⟨_, hz, rfl⟩ (zip_next_end hA D.zip hz h1 h2 h3 h4 p p2 he fun h' x k ho => hE h' x k ho)
  · obtain ⟨_, its, r, o, ho, _⟩ := (show ObjOk X.prog X.w H s.heap T (.tup zs) from I.hok T _ hT)
    exact EZ.nextOf_of ⟨_, hz, rfl⟩ (zip_next_end_held hA D.zip hz ho h1 h3 h4 p p2 he fun h' x k hx => hE h' x (fun c o c1 _ c3 c4 q => k c o c1 c3 c4 q) hx)
end
end My
namespace My
open PySem PySem.Spec PyProof.Rows L2
section
variable {X : Cx}
theorem ps_forEZ {ea eb : Expr} {ta : TA} {g : TG} {tb : TS} {elts : List Expr} {kk : Nat} {tpos p1 p2 c1 c2 fpos : Pos} {body : List Stmt} (hp : PassesOwn (model X.prog X.w) X.A X.env X.xe) (hc : X.calm = true)
    (g1 : Gl X "enumerate") (m1 : X.mg "enumerate" = none) (g2 : Gl X "zip") (m2 : X.mg "zip" = none) (ha : PA X [ea, eb] ta) (hg : PG X (.Tuple elts kk tpos) g) (hb : PSs X body tb)
    (hs1 : starEach [.Call (.Name "zip" p2) [ea, eb] [] c2] X.env = (false, eval (.Call (.Name "zip" p2) [ea, eb] [] c2) X.env) :: starEach [] X.env := by rfl)
    (hs2 : starEach [ea, eb] X.env = (false, eval ea X.env) :: starEach [eb] X.env := by rfl) (hpl : (backTo c2 (starEach [eb] X.env)).any (·.1) = false := by rfl)
    (hs : ∀ x, foldedSetIterable (.Call (.Name "enumerate" p1) [.Call (.Name "zip" p2) [ea, eb] [] c2] [] c1) X.env x = pure x := by intro _; rfl) :
    PS X (.For (.Tuple elts kk tpos) (.Call (.Name "enumerate" p1) [.Call (.Name "zip" p2) [ea, eb] [] c2] [] c1) body [] fpos) (tForEZ X.K ta g tb) := by
  refine ⟨fun pins s σ H D I h => ?_⟩
  refine wpAny_For ?_ hs
  refine Call_ (ld_blt I g1 m1 boot_enumerate (PyProof.Rows.callWith_type1 ?_ hs1 rfl))
  rw [hs1]
  show wpAny _ _ (spliced ((false, eval (.Call (.Name "zip" p2) [ea, eb] [] c2) X.env) :: backTo c1 (starEach [] X.env))) _ _ s
  refine Calls.spliced_cons ?_
  refine Call_ (ld_blt I g2 m2 PyProof.Rows.boot_zip (PyProof.Rows.callWith_type1 (thn (ha.run c2 pins s σ H _ I h) fun us s1 ⟨vs, H1, I1, r1, q1⟩ => ?_) hs2 hpl))
  obtain ⟨a, b, xs, ys, ex, W, w0, hl, turn⟩ := q1
  subst ex
  obtain ⟨u, u2, rfl, ra, rb⟩ := vals2 r1
  cases ra
  cases rb
  obtain ⟨hqx, hqy⟩ := hl 0 σ H1 w0
  obtain ⟨its, rv, pa, _⟩ := I1.list hqx
  obtain ⟨its2, rv2, pb, _⟩ := I1.list hqy
  have la : a < s1.heap.objs.size := pa.lt
  have lb : b < s1.heap.objs.size := pb.lt
  refine call_zip_2 pa.isList pb.isList fun h' hz hTI hTO h1 h2 hsz hk => ?_
  refine PyProof.Rows.args_nil ?_
  refine EZ.call_enum (s := { s1 with heap := h' }) hz fun h'' he hsz2 hk2 => wpAny_pyIter_enum he ?_
  have he : IsEnum h'' h'.objs.size (s1.heap.objs.size + 4) 0 .none := he
  rw [hsz] at he
  show codeAny _ _ (.forLoop (.Tuple elts kk tpos) (.ref h'.objs.size) body [] X.env) _ _
  rw [hsz]
  have DA := PySem.W.ktu_apart s1.heap.objs.size a b la lb
  generalize hN : s1.heap.objs.size = N at *
  have AP : Apart6 (N + 5) (N + 4) (N + 2) (N + 3) N (N + 1) a b := ⟨DA, show (N + 5 : Nat) ≠ N + 4 by omega, show (N + 5 : Nat) ≠ N + 2 by omega, show (N + 5 : Nat) ≠ N + 3 by omega, show (N + 5 : Nat) ≠ N by omega, show (N + 5 : Nat) ≠ N + 1 by omega⟩
  have keep0 : ∀ c o, s1.heap.get? c = some o → h''.get? c = some o := fun c o q => hk2 c o (hk c o q)
  have I2 : Inv X pins σ H1 { s1 with heap := h'' } := I1.kept (t' := s1.toks) keep0
  have S0 : EZAt h'' H1 (N + 5) (N + 4) (N + 2) (N + 3) N (N + 1) a b 0 := ⟨⟨_, he⟩, hk2 _ _ hTI, ⟨_, _, hk2 _ _ hTO⟩, h1.at fun o q => hk2 _ o q, h2.at fun o q => hk2 _ o q, .inl (hk2 _ _ hz)⟩
  have fp0 : ∀ c ∈ [N + 5, N + 4, N + 2, N + 3, N, N + 1], FpOk X pins H1 c := fun c hcm => by
    have hcm : c = N + 5 ∨ c = N + 4 ∨ c = N + 2 ∨ c = N + 3 ∨ c = N ∨ c = N + 1 := by simpa using hcm
    have hle : s1.heap.objs.size ≤ c := by omega
    exact I1.fpOk hle (I1.hok.fresh hle)
  have stat : ∀ {H' : Hp}, (∀ c ∈ [N + 5, N + 4, N + 2, N + 3, N, N + 1], H' c = none) → ∀ c ∈ [N + 5, N + 4, N + 2, N + 3, N, N + 1], FpOk X pins H' c := fun hn c hcm => ⟨hn c hcm, (fp0 c hcm).2⟩
  generalize N + 5 = e at AP S0 fp0 stat ⊢
  generalize N + 4 = z at AP S0 fp0 stat ⊢
  generalize N + 2 = TI at AP S0 fp0 stat ⊢
  generalize N + 3 = TO at AP S0 fp0 stat ⊢
  generalize N + 1 = i2 at AP S0 fp0 stat ⊢
  generalize N = i1 at AP S0 fp0 stat ⊢
  refine codeAny_forLoop_any (fun n s' => ∃ i σ' H', Inv X pins σ' H' s' ∧ EZAt s'.heap H' e z TI TO i1 i2 a b i ∧ (∀ c ∈ [e, z, TI, TO, i1, i2], H' c = none) ∧ W i σ' H' ∧ n = min xs.length ys.length - i) ?_ _ ⟨0, σ, H1, I2, S0, fun c hcm => (fp0 c hcm).1, w0, rfl⟩
  rintro n s3 ⟨i, σ3, H3, I3, S3, fr3, w3, rfl⟩
  obtain ⟨hx3, hy3⟩ := hl i σ3 H3 w3
  obtain ⟨it, rvx, px, _⟩ := I3.list hx3
  obtain ⟨it2, rvy, py, _⟩ := I3.list hy3
  obtain ⟨stop, step⟩ := turn i σ3 H3 w3
  have lx := rvx.length
  have ly := rvy.length
  obtain ⟨old, hen⟩ := S3.en
  by_cases hend : xs.length ≤ i ∨ ys.length ≤ i
  · have hnone : it[i]? = none ∨ it2[i]? = none := by
      rcases hend with q | q
      · exact .inl (List.getElem?_eq_none (by omega))
      · exact .inr (List.getElem?_eq_none (by omega))
    refine wpAny_passesOwn hp (EZ.pyNext_enum_end hen (EE := fun h1 => ∀ c o, c ≠ z → c ≠ TO → c ≠ i1 → c ≠ i2 → s3.heap.get? c = some o → h1.get? c = some o)
      (fun Q1 E1 k => zip_stop I3 AP S3 px.isList py.isList hnone X.A.in1 (I3.ok.hd hc) Q1 E1 fun h1 x k1 ho => k h1 x k1 ho) fun h1 k1 => ?_)
    have I4 : Inv X pins σ3 H3 { s3 with heap := h1 } := I3.turnedL (t' := s3.toks) (ch := [e, z, TI, TO, i1, i2]) (fun c o hcm q => k1 c o (fun q' => hcm (by simp [q'])) (fun q' => hcm (by simp [q'])) (fun q' => hcm (by simp [q'])) (fun q' => hcm (by simp [q'])) q) (stat fr3)
    exact wpAny_execs_nil ⟨σ3, H3, I4, stop hend⟩
  · have hi1 : i < xs.length := by omega
    have hi2 : i < ys.length := by omega
    obtain ⟨x, hx⟩ : ∃ x, xs[i]? = some x := ⟨_, List.getElem?_eq_getElem hi1⟩
    obtain ⟨y, hy⟩ : ∃ y, ys[i]? = some y := ⟨_, List.getElem?_eq_getElem hi2⟩
    obtain ⟨u, hu, ru⟩ := rvx.get hx
    obtain ⟨u2, hu2, ru2⟩ := rvy.get hy
    refine wpAny_passesOwn hp (EZ.pyNext_enum hen (KK := fun v h1 => v = .ref s3.heap.objs.size ∧ ZNext s3.heap h1 e z TI TO i1 i2 a b s3.heap.objs.size i u u2)
      (fun E1 Q1 k => zip_turn I3 AP S3 px.isList py.isList hu hu2 _ E1 Q1 fun h1 zn => k _ h1 ⟨rfl, zn⟩) (fun v h1 kv => kv.2.keep _ _ AP.ez AP.eTO AP.e1 AP.e2 hen) fun v h1 h2 kv ho ht hk12 => ?_)
    obtain ⟨rfl, zn⟩ := kv
    refine wpAny_passesOwn hp (wpAny_letOwnedTupleGo_enum (s := { s3 with heap := h2, toks := s3.toks + 1 }) ho fun h3 he3 sb3 => ?_)
    have hsz1 := zn.size
    have hel : e < s3.heap.objs.size := Heap.lt_size hen
    have up13 : ∀ c o, c ≠ e → h1.get? c = some o → h3.get? c = some o := fun c o hce q => (sb3.2 c hce).trans (hk12 c o hce q)
    have upS : ∀ c o, c ∉ [e, z, TI, TO, i1, i2] → s3.heap.get? c = some o → h3.get? c = some o := fun c o hcm q =>
      up13 c o (fun q' => hcm (by simp [q'])) (zn.keep c o (fun q' => hcm (by simp [q'])) (fun q' => hcm (by simp [q'])) (fun q' => hcm (by simp [q'])) (fun q' => hcm (by simp [q'])) q)
    have hT3 : h3.get? s3.heap.objs.size = some { cls := .type "tuple", data := .seq #[u, u2] } := up13 _ _ (Nat.ne_of_gt hel) zn.pair
    have hU3 : h3.get? h1.objs.size = some { cls := .type "tuple", data := .seq #[.int ((i : Nat) : Int) s3.toks, .ref s3.heap.objs.size] } := (sb3.2 _ (Nat.ne_of_gt (Nat.lt_of_lt_of_le hel (by omega)))).trans ht
    have frT : H3 s3.heap.objs.size = none := I3.hok.fresh (Nat.le_refl _)
    have frU : H3 h1.objs.size = none := I3.hok.fresh (by omega)
    have hTU : s3.heap.objs.size ≠ h1.objs.size := Nat.ne_of_lt (by omega)
    -- the pair, then the enumerate's tuple
    have I5 : Inv X pins σ3 (upd H3 s3.heap.objs.size (.tup [x, y])) { s3 with heap := h3, toks := s3.toks + 1 } :=
      I3.turnedNew (ch := [e, z, TI, TO, i1, i2]) upS (stat fr3) (Nat.le_refl _) ⟨by show 2 ≤ sizeLine; decide, [u, u2], .cons ru (.cons ru2 .nil), ⟨_, hT3, rfl, _, rfl⟩⟩
    have I6 : Inv X pins σ3 (upd (upd H3 s3.heap.objs.size (.tup [x, y])) h1.objs.size (.tup [.int (i : Nat), .ref s3.heap.objs.size])) { s3 with heap := h3, toks := s3.toks + 1 } :=
      I5.take (h' := h3) (t' := s3.toks + 1) (fun c ob _ q => q) (by
        have f := I3.fpOk (b := h1.objs.size) (by omega) frU
        exact ⟨by rw [upd_ne hTU.symm]; exact frU, f.2⟩) ⟨by show 2 ≤ sizeLine; decide, [.int ((i : Nat) : Int) s3.toks, .ref s3.heap.objs.size], .cons ⟨_, rfl⟩ (.cons rfl .nil), ⟨_, hU3, rfl, _, rfl⟩⟩
    have tk : TupK H3 (upd (upd H3 s3.heap.objs.size (.tup [x, y])) h1.objs.size (.tup [.int (i : Nat), .ref s3.heap.objs.size])) := fun c zs q => by
      rw [upd_ne (ne_of_none q frU), upd_ne (ne_of_none q frT)]
      exact q
    have hTin : (upd (upd H3 s3.heap.objs.size (.tup [x, y])) h1.objs.size (.tup [.int (i : Nat), .ref s3.heap.objs.size])) s3.heap.objs.size = some (.tup [x, y]) := by
      rw [upd_ne hTU]
      exact upd_same
    have S6 : EZAt h3 (upd (upd H3 s3.heap.objs.size (.tup [x, y])) h1.objs.size (.tup [.int (i : Nat), .ref s3.heap.objs.size])) e z TI TO i1 i2 a b (i + 1) := by
      obtain ⟨tx, ty, hto⟩ := zn.to
      obtain ⟨T', f', hz', hw⟩ := zn.zp
      refine ⟨⟨.ref s3.heap.objs.size, ?_⟩, up13 _ _ AP.eTI.symm zn.ti, ⟨tx, ty, up13 _ _ AP.eTO.symm hto⟩, zn.l1.at fun o q => up13 _ o AP.e1.symm q, zn.l2.at fun o q => up13 _ o AP.e2.symm q, .inr ⟨T', f', ?_⟩⟩
      · have ei : ((i + 1 : Nat) : Int) = ((i : Nat) : Int) + 1 := by omega
        rw [ei]
        exact he3
      · rcases hw with rfl | ⟨f0, hz0⟩
        · exact ⟨_, up13 _ _ AP.ez.symm hz', hTin⟩
        · rcases S3.zp with hz1 | ⟨T1, f1, zs1, hz1, hT1⟩
          · have q := hz1.symm.trans hz0
            cases q
          · have q := hz1.symm.trans hz0
            have eT : T1 = T' := by
              have q2 := congrArg (fun o : Option Obj => o.map (·.data)) q
              simp only [Option.map_some] at q2
              have q3 := Data.fields.inj (Option.some.inj q2)
              have q4 := congrArg (fun v : Array Value => v[0]?) q3
              have q5 : rawInt (T1 : Int) = rawInt (T' : Int) := Option.some.inj q4
              exact Int.ofNat_inj.mp (Value.int.inj q5).1
            rw [← eT] at hz' ⊢
            exact ⟨zs1, up13 _ _ AP.ez.symm hz', tk _ _ hT1⟩
    have fr6 : ∀ c ∈ [e, z, TI, TO, i1, i2], (upd (upd H3 s3.heap.objs.size (.tup [x, y])) h1.objs.size (.tup [.int (i : Nat), .ref s3.heap.objs.size])) c = none := fun c hcm => by
      obtain ⟨o, ho, _⟩ := S3.obj c hcm
      have hlt : c < s3.heap.objs.size := Heap.lt_size ho
      rw [upd_ne (Nat.ne_of_lt (Nat.lt_of_lt_of_le hlt (by omega))), upd_ne (Nat.ne_of_lt hlt)]
      exact fr3 c hcm
    have body := step x y s3.heap.objs.size h1.objs.size hx hy frT frU hTU
    generalize upd (upd H3 s3.heap.objs.size (.tup [x, y])) h1.objs.size (.tup [.int (i : Nat), .ref s3.heap.objs.size]) = H6 at I6 S6 fr6 body
    have I6' := I6.pinned (stat fr6) S6.obj
    refine wpAny_passesOwn hp (thn (hg.run _ _ σ3 H6 (V.ref h1.objs.size) _ _ I6' (show L2.RelV (V.ref h1.objs.size) (Value.ref h1.objs.size) from rfl) body) fun _ s7 ⟨σ7, H7, I7, q7⟩ => ?_)
    refine wpAny_passesOwn hp (thn (hb.run _ s7 σ7 H7 _ I7 q7) fun f s8 q8 => ?_)
    have again : ∀ {σ8 : L2.St} {H8 : Hp}, Inv X (pins ++ pinsAt [e, z, TI, TO, i1, i2] h3) σ8 H8 s8 → TupK H6 H8 → W (i + 1) σ8 H8 →
        ∃ m, m < min xs.length ys.length - i ∧ ∃ i' σ' H', Inv X pins σ' H' s8 ∧ EZAt s8.heap H' e z TI TO i1 i2 a b i' ∧ (∀ c ∈ [e, z, TI, TO, i1, i2], H' c = none) ∧ W i' σ' H' ∧ m = min xs.length ys.length - i' := fun {σ8 H8} I8 t8 w8 => by
      refine ⟨min xs.length ys.length - (i + 1), by omega, i + 1, σ8, H8, I8.unpinned, S6.keep (fun c hcm o q => (I8.pin (c, o) (List.mem_append_right _ (List.mem_append_right _ (mem_pinsAt hcm q)))).1) t8, fun c hcm => ?_, w8, rfl⟩
      obtain ⟨o, q, d⟩ := S6.obj c hcm
      exact (I8.pin (c, o) (List.mem_append_right _ (List.mem_append_right _ (mem_pinsAt hcm q)))).2.1
    cases f with
    | next => obtain ⟨σ8, H8, I8, t8, n8⟩ := q8; exact again I8 t8 n8
    | cont => obtain ⟨σ8, H8, I8, t8, n8⟩ := q8; exact again I8 t8 n8
    | brk => obtain ⟨σ8, H8, I8, q9⟩ := q8; exact ⟨σ8, H8, I8.unpinned, q9⟩
    | ret v => obtain ⟨x8, σ8, H8, I8, r8, q9⟩ := q8; exact ⟨x8, σ8, H8, I8.unpinned, r8, q9⟩
end
end My
namespace My
open PySem PySem.Spec PyProof.Rows L2
open VamacBase (Deed Prog Table Reader readDeed readTimes readListed readTable readProg whole flatTable flatDeeds flatDeed flatProg flatPieces okPieces)
open Vamacb (isCounted lengthOf unroll unrollFrom foldings leastOf firstOther)
def optN : Option Nat → V
  | none => .non
  | some i => .int (i : Nat)
theorem optN_non (o : Option Nat) : decide (optN o = .non) = o.isNone := by cases o <;> rfl
theorem TupK.of {H H' : Hp} (e : Same H H') : TupK H H' := fun c zs h => e _ _ h
/-- first_unlike -/
def spFirst : Sp := fun vs H Q _ => ∃ (l1 l2 : List Deed) (a b : Addr) (xs ys : List V), vs = [.ref a, .ref b] ∧ Rec H l1 a xs ∧ Rec H l2 b ys ∧ l1.length ≤ 1000 ∧ l2.length ≤ 1000 ∧ ∀ H', Same H H' → Q (optN (firstOther l1 l2)) H'
theorem sc_first_unlike : FnScope ["one", "other", "place", "deed", "own"] ["one", "other"] (defScope s_first_unlike) := ⟨rfl, rfl, rfl, by decide +kernel, rfl, by decide +kernel, by decide +kernel⟩
theorem ok_first_unlike {P : Program} {w : World} {K : PySem.W.Frag} {mg : Str → Option Value} {base : Heap} (T : Txt K mg) : FnOk P w K mg base CX0 1 T.first_unlike.f T.first_unlike.fd ["one", "other"] (spFirst) := by
  refine T.first_unlike.F.ok sc_first_unlike (fun vs H Q E h => ?_) (fun cdv A outer s H vs Q E hr h => ⟨_, (pss_cons (ps_forEZ PassesOwn.never rfl (by rfl) T.z_enumerate (by rfl) T.z_zip (by exact (pa_cons (pv 0) (pa_cons (pv 1) pa_nil))) (pg_tupK (K := K) (n := 2) (by rfl) (pgs_cons (pg_name (i := 2) sc_first_unlike.nd rfl (Or.inl rfl)) (pgs_cons (pg_tupK (K := K) (n := 2) (by rfl) (pgs_cons (pg_name (i := 3) sc_first_unlike.nd rfl (Or.inl rfl)) (pgs_cons (pg_name (i := 4) sc_first_unlike.nd rfl (Or.inl rfl)) pgs_nil))) pgs_nil)))
    (pss_one (ps_if (pt_cmpR (op_neDK (K := K) hr.units) (pv 3) (pv 4) (nomark _))
    (pss_one (ps_ret (pv 2)))
    pss_nil)))
    (pss_one (ps_ret (pe_ifExp (pt_cmpR op_eq (pe_callB (call_lenK (K := K)) (by rfl) T.z_len PySem.boot_len (by exact (pa_cons (pv 0) pa_nil))) (pe_callB (call_lenK (K := K)) (by rfl) T.z_len PySem.boot_len (by exact (pa_cons (pv 1) pa_nil))) (nomark _)) pe_non (pe_callB (call_min2 rfl) (by rfl) T.z_min (by decide +kernel) (by exact (pa_cons (pe_callB (call_lenK (K := K)) (by rfl) T.z_len PySem.boot_len (by exact (pa_cons (pv 0) pa_nil))) (pa_cons (pe_callB (call_lenK (K := K)) (by rfl) T.z_len PySem.boot_len (by exact (pa_cons (pv 1) pa_nil))) pa_nil)))))))), ?_⟩)
  · obtain ⟨l1, l2, a, b, xs, ys, rfl, _⟩ := h
    rfl
  · obtain ⟨l1, l2, a, b, xs, ys, rfl, R1, R2, h1, h2, hQ⟩ := h
    have e1 : xs.length = l1.length := R1.all.1.symm
    have e2 : ys.length = l2.length := R2.all.1.symm
    refine ⟨_, rfl, _, rfl, a, b, xs, ys, rfl, fun i σ H' => ∃ u v w, σ = [some (.ref a), some (.ref b), u, v, w] ∧ Same H H' ∧ ∀ j, j < i → l1[j]? = l2[j]?, ⟨_, _, _, rfl, Same.refl _, fun j hj => absurd hj (Nat.not_lt_zero j)⟩, fun i σ H' ⟨_, _, _, _, s, _⟩ => ⟨SqL.of (s _ _ R1.at_), SqL.of (s _ _ R2.at_)⟩, ?_⟩
    rintro i σ H' ⟨u, v, w, rfl, s1, hall⟩
    refine ⟨fun hend => ?_, fun x y T0 U hx hy nT nU hTU => ?_⟩
    · refine ⟨_, rfl, a, xs, rfl, .inl (SqL.of (s1 _ _ R1.at_)), _, rfl, b, ys, rfl, .inl (SqL.of (s1 _ _ R2.at_)), rfl, _, rfl, ?_⟩
      rw [e1, e2] at hend ⊢
      by_cases heq : l1.length = l2.length
      · rw [decide_eq_true (by rw [heq])]
        have hl : l1 = l2 := by
          apply List.ext_getElem?
          intro j
          by_cases hj : j < i
          · exact hall j hj
          · rw [List.getElem?_eq_none (by omega), List.getElem?_eq_none (by omega)]
        have := hQ H' s1
        rw [other_none hl] at this
        exact iteT this
      · rw [decide_eq_false (by intro z; injection z with z; exact heq (Int.ofNat_inj.mp z))]
        refine iteF ⟨_, rfl, a, xs, rfl, .inl (SqL.of (s1 _ _ R1.at_)), _, rfl, b, ys, rfl, .inl (SqL.of (s1 _ _ R2.at_)), _, _, rfl, ?_⟩
        rw [e1, e2]
        have hmin : (if ((l2.length : Nat) : Int) < ((l1.length : Nat) : Int) then ((l2.length : Nat) : Int) else ((l1.length : Nat) : Int)) = ((min l1.length l2.length : Nat) : Int) := by
          split <;> omega
        rw [hmin]
        have := hQ H' s1
        rw [other_at (i := min l1.length l2.length) (fun j hj => hall j (by omega)) (by
          by_cases hlt : l1.length < l2.length
          · rw [List.getElem?_eq_none (by omega), List.getElem?_eq_getElem (show min l1.length l2.length < l2.length by omega)]
            intro z
            cases z
          · rw [List.getElem?_eq_getElem (show min l1.length l2.length < l1.length by omega), List.getElem?_eq_none (by omega)]
            intro z
            cases z)] at this
        exact this
    · obtain ⟨d1, f1, g1⟩ := R1.all.getV hx
      obtain ⟨d2, f2, g2⟩ := R2.all.getV hy
      have sT := Same.new (o := .tup [x, y]) nT
      have nU2 : (upd H' T0 (.tup [x, y])) U = none := by
        rw [upd_ne hTU.symm]
        exact nU
      have s2 := s1.trans (sT.trans (Same.new (o := .tup [.int (i : Nat), .ref T0]) nU2))
      have hU : (upd (upd H' T0 (.tup [x, y])) U (.tup [.int (i : Nat), .ref T0])) U = some (.tup [.int (i : Nat), .ref T0]) := upd_same
      have hT : (upd (upd H' T0 (.tup [x, y])) U (.tup [.int (i : Nat), .ref T0])) T0 = some (.tup [x, y]) := by
        rw [upd_ne hTU]
        exact upd_same
      generalize upd (upd H' T0 (.tup [x, y])) U (.tup [.int (i : Nat), .ref T0]) = H2 at s2 hU hT ⊢
      refine ⟨U, _, rfl, SqT.of hU, rfl, _, _, rfl, _, _, rfl, ⟨T0, _, rfl, SqT.of hT, rfl, _, _, rfl, _, _, rfl, rfl, rfl, ?_⟩⟩
      refine ⟨_, rfl, _, rfl, deedD d1, deedD d2, dp_deed (g1.same s2), dp_deed (g2.same s2), shaped_deed _, shaped_deed _, ?_⟩
      rw [eqv_deed]
      refine ⟨_, rfl, ?_⟩
      by_cases hd : d1 = d2
      · have eb : (!(d1 == d2)) = false := by rw [hd]; simp
        rw [eb]
        refine iteF ⟨fun c zs q => q, _, _, _, rfl, s2, fun j hj => ?_⟩
        by_cases hji : j < i
        · exact hall j hji
        · have : j = i := by omega
          rw [this, f1, f2, hd]
      · have eb : (!(d1 == d2)) = true := by simp [hd]
        rw [eb]
        have := hQ H2 s2
        rw [other_at (i := i) hall (by rw [f1, f2]; intro z; exact hd (Option.some.inj z))] at this
        exact iteT ⟨_, rfl, this⟩
/-- is -/
def isX (l : List Deed) (x : List Int) : Except Int (List Deed × List Int) := match whole readProg x with
  | none => .error (-1)
  | some p => if isCounted p = false then .error (-4) else if 60 < lengthOf p then .error (-7) else .ok (l, match firstOther (unroll p) l with
    | none => [1]
    | some i => [0, ((i : Nat) : Int)])
theorem sc_Desk_do_is : FnScope ["self", "some", "place"] ["self", "some"] (defScope s_Desk_do_is) := ⟨rfl, rfl, rfl, by decide +kernel, rfl, by decide +kernel, by decide +kernel⟩
theorem ok_Desk_do_is {P : Program} {w : World} {K : PySem.W.Frag} {mg : Str → Option Value} {base : Heap} (T : Txt K mg) : FnOk P w K mg base (L2.CX P w) 21 T.Desk_do_is.f T.Desk_do_is.fd ["self", "some"] (spDesk1 K T.Desk.C T.Ref isX) := by
  refine T.Desk_do_is.F.okX sc_Desk_do_is (fun vs H Q E h => ?_) (fun cdv A outer s H vs Q E hr h => ⟨_, (pss_cons (ps_set (i := 2) sc_Desk_do_is.nd rfl (Or.inl rfl) (pe_call (ok_first_unlike T) (hr.mono (by decide)) rfl T.first_unlike.g T.first_unlike.k T.first_unlike.b .nil pass0 (by exact (pa_cons (pe_call (ok_deeds_of_program T) (hr.mono (by decide)) rfl T.deeds_of_program.g T.deeds_of_program.k T.deeds_of_program.b .nil (passes_call (takes_of rfl rfl rfl rfl) fun _ _ _ _ h => h) (by exact (pa_cons (pv 1) pa_nil))) (pa_cons (pe_fldK (K := K) (pv 0) rfl) pa_nil)))))
    (pss_one (ps_ret (pe_ifExp (pt_cmp (pc_isN (pv 2))) (pe_lst (by exact (pa_cons pe_int pa_nil))) (pe_lst (by exact (pa_cons pe_int (pa_cons (pv 2) pa_nil)))))))), ?_⟩)
  · obtain ⟨d, b, l, x, rfl, _⟩ := h
    rfl
  · obtain ⟨d, b, l, x, rfl, ⟨a, ws, D⟩, hb, hl, hA⟩ := h
    obtain ⟨dx, hd⟩ := D.obj
    unfold isX at hA
    refine ⟨_, rfl, b, x, rfl, hb, hl, ?_⟩
    cases e : whole readProg x with
    | none =>
      rw [e] at hA
      exact hA
    | some p =>
      rw [e] at hA
      have hA : Ans T.Desk.C T.Ref H d Q E (if isCounted p = false then .error (-4) else if 60 < lengthOf p then .error (-7) else .ok (l, match firstOther (unroll p) l with
        | none => [1]
        | some i => [0, ((i : Nat) : Int)])) := hA
      show if isCounted p = false then _ else if 60 < lengthOf p then _ else _
      by_cases h1 : isCounted p = false
      · rw [if_pos h1] at hA ⊢
        exact hA
      · rw [if_neg h1] at hA ⊢
        by_cases h2 : 60 < lengthOf p
        · rw [if_pos h2] at hA ⊢
          exact hA
        · rw [if_neg h2] at hA ⊢
          intro H1 L xs s1 nL hL hx
          have D1 := D.same s1
          have hd1 := s1 _ _ hd
          have hul : (unroll p).length ≤ 60 := by
            have := unroll_len p (by simpa using h1) 0
            show (unrollFrom p 0).length ≤ 60
            omega
          refine ⟨_, rfl, d, _, dx, _, _, rfl, hd1, T.Desk.cl, T.n_Desk_deeds, dkF_deeds, unroll p, l, L, a, xs, ws, rfl, ⟨hL, hx⟩, D1.rc, by omega, by have := D.few; omega, fun H2 s2 => ?_⟩
          have s12 := s1.trans s2
          refine ⟨_, rfl, _, rfl, ?_⟩
          rw [optN_non]
          cases ho : firstOther (unroll p) l with
          | none =>
            rw [ho] at hA
            exact iteT ⟨by show 1 ≤ sizeLine; decide, fun M hM => hA _ M (But.of (s12.trans (Same.new hM))) ((Dom.of s12).none hM) ⟨a, ws, D.same (s12.trans (Same.new hM)), .inr ⟨dx, hd⟩⟩ upd_same⟩
          | some i =>
            rw [ho] at hA
            exact iteF ⟨_, rfl, by show 2 ≤ sizeLine; decide, fun M hM => hA _ M (But.of (s12.trans (Same.new hM))) ((Dom.of s12).none hM) ⟨a, ws, D.same (s12.trans (Same.new hM)), .inr ⟨dx, hd⟩⟩ upd_same⟩
end My
namespace My
open PySem PySem.Spec PyProof.Rows L2
open VamacBase (Deed Prog Table Reader readDeed readTimes readListed readTable readProg whole flatTable flatDeeds flatDeed flatProg flatPieces okPieces)
open Vamacb (isCounted lengthOf unroll unrollFrom foldings leastOf firstOther)
/-- unroll -/
def unrollX (l : List Deed) (x : List Int) : Except Int (List Deed × List Int) := match whole readProg x with
  | none => .error (-1)
  | some p => if isCounted p = false then .error (-4) else if 60 < lengthOf p then .error (-7) else .ok (l, flatDeeds (unroll p))
def withX (c : Int) (l : List Deed) (x : List Int) : Except Int (List Deed × List Int) :=
  if c = 0 then recordX l x else if c = 1 then addX l x else if c = 5 then isX l x else if c = 6 then unrollX l x else playX l x
def noX (c : Int) (l : List Deed) : Except Int (List Deed × List Int) :=
  if c = 2 then dropX l else if c = 3 then .ok (l, [((foldings l).count : Int)]) else if c = 4 then leastX l else if c = 7 then nextX l else if c = 8 then loopsX l else .ok (l, flatDeeds l)
theorem dec_eq (c z : Int) : decide (V.int c = V.int z) = decide (c = z) := decide_eq_decide.mpr ⟨fun h => V.int.inj h, fun h => by rw [h]⟩
def spWithList (K : PySem.W.Frag) (C Ref : Addr) : Sp := fun vs H Q E => ∃ (d b : Addr) (c : Int) (l : List Deed) (x : List Int), vs = [.ref d, .int c, .ref b] ∧ DkE C H d l ∧ SqL K H b (x.map V.int) ∧ x.length ≤ 100000 ∧ Ans C Ref H d Q E (withX c l x)
theorem sc_Desk_with_list : FnScope ["self", "call", "some"] ["self", "call", "some"] (defScope s_Desk_with_list) := ⟨rfl, rfl, rfl, by decide +kernel, rfl, by decide +kernel, by decide +kernel⟩
theorem ok_Desk_with_list {P : Program} {w : World} {K : PySem.W.Frag} {mg : Str → Option Value} {base : Heap} (T : Txt K mg) : FnOk P w K mg base (L2.CX P w) 22 T.Desk_with_list.f T.Desk_with_list.fd ["self", "call", "some"] (spWithList K T.Desk.C T.Ref) := by
  refine T.Desk_with_list.F.okX sc_Desk_with_list (fun vs H Q E h => ?_) (fun cdv A outer s H vs Q E hr h => ⟨_, (pss_cons (ps_if (pt_cmpR op_eq (pv 1) pe_int (nomark _))
    (pss_one (ps_ret (pe_meth (pv 0) T.Desk.cl T.Desk_do_record.m (ok_Desk_do_record T) (hr.mono (by decide)) T.Desk_do_record.b .nil (passes_call (takes_of rfl rfl rfl rfl) fun _ _ _ _ h => h) (by exact (pa_cons (pv 2) pa_nil)))))
    pss_nil)
    (pss_cons (ps_if (pt_cmpR op_eq (pv 1) pe_int (nomark _))
    (pss_one (ps_ret (pe_meth (pv 0) T.Desk.cl T.Desk_do_add.m (ok_Desk_do_add T) (hr.mono (by decide)) T.Desk_do_add.b .nil (passes_call (takes_of rfl rfl rfl rfl) fun _ _ _ _ h => h) (by exact (pa_cons (pv 2) pa_nil)))))
    pss_nil)
    (pss_cons (ps_if (pt_cmpR op_eq (pv 1) pe_int (nomark _))
    (pss_one (ps_ret (pe_meth (pv 0) T.Desk.cl T.Desk_do_is.m (ok_Desk_do_is T) (hr.mono (by decide)) T.Desk_do_is.b .nil (passes_call (takes_of rfl rfl rfl rfl) fun _ _ _ _ h => h) (by exact (pa_cons (pv 2) pa_nil)))))
    pss_nil)
    (pss_one (ps_ret (pe_ifExp (pt_cmpR op_eq (pv 1) pe_int (nomark _)) (pe_call (ok_deeds_told T) (hr.mono (by decide)) rfl T.deeds_told.g T.deeds_told.k T.deeds_told.b .nil pass0 (by exact (pa_cons (pe_call (ok_deeds_of_program T) (hr.mono (by decide)) rfl T.deeds_of_program.g T.deeds_of_program.k T.deeds_of_program.b .nil (passes_call (takes_of rfl rfl rfl rfl) fun _ _ _ _ h => h) (by exact (pa_cons (pv 2) pa_nil))) pa_nil))) (pe_meth (pv 0) T.Desk.cl T.Desk_do_play.m (ok_Desk_do_play T) (hr.mono (by decide)) T.Desk_do_play.b .nil (passes_call (takes_of rfl rfl rfl rfl) fun _ _ _ _ h => h) (by exact (pa_cons (pv 2) pa_nil))))))))), ?_⟩)
  · obtain ⟨d, b, c, l, x, rfl, _⟩ := h
    rfl
  · obtain ⟨d, b, c, l, x, rfl, DE, hb, hl, hA⟩ := h
    obtain ⟨a, ws, D⟩ := id DE
    obtain ⟨dx, hd⟩ := D.obj
    unfold withX at hA
    refine ⟨_, rfl, rfl, _, rfl, ?_⟩
    rw [dec_eq]
    by_cases h0 : c = 0
    · rw [decide_eq_true h0]
      rw [if_pos h0] at hA
      exact iteT ⟨_, rfl, d, dx, _, rfl, hd, dkF_m_do_record, _, rfl, d, b, l, x, rfl, DE, hb, hl, hA⟩
    rw [decide_eq_false h0]
    rw [if_neg h0] at hA
    refine iteF ⟨_, rfl, rfl, _, rfl, ?_⟩
    rw [dec_eq]
    by_cases h1 : c = 1
    · rw [decide_eq_true h1]
      rw [if_pos h1] at hA
      exact iteT ⟨_, rfl, d, dx, _, rfl, hd, dkF_m_do_add, _, rfl, d, b, l, x, rfl, DE, hb, hl, hA⟩
    rw [decide_eq_false h1]
    rw [if_neg h1] at hA
    refine iteF ⟨_, rfl, rfl, _, rfl, ?_⟩
    rw [dec_eq]
    by_cases h5 : c = 5
    · rw [decide_eq_true h5]
      rw [if_pos h5] at hA
      exact iteT ⟨_, rfl, d, dx, _, rfl, hd, dkF_m_do_is, _, rfl, d, b, l, x, rfl, DE, hb, hl, hA⟩
    rw [decide_eq_false h5]
    rw [if_neg h5] at hA
    refine iteF ⟨_, rfl, rfl, _, rfl, ?_⟩
    rw [dec_eq]
    by_cases h6 : c = 6
    · rw [decide_eq_true h6]
      rw [if_pos h6] at hA
      unfold unrollX at hA
      refine iteT ⟨_, rfl, b, x, rfl, hb, hl, ?_⟩
      cases e : whole readProg x with
      | none =>
        rw [e] at hA
        exact hA
      | some p =>
        rw [e] at hA
        have hA : Ans T.Desk.C T.Ref H d Q E (if isCounted p = false then .error (-4) else if 60 < lengthOf p then .error (-7) else .ok (l, flatDeeds (unroll p))) := hA
        show if isCounted p = false then _ else if 60 < lengthOf p then _ else _
        by_cases g1 : isCounted p = false
        · rw [if_pos g1] at hA ⊢
          exact hA
        · rw [if_neg g1] at hA ⊢
          by_cases g2 : 60 < lengthOf p
          · rw [if_pos g2] at hA ⊢
            exact hA
          · rw [if_neg g2] at hA ⊢
            intro H1 L xs s1 nL hL hx
            have hul : (unroll p).length ≤ 60 := by
              have := unroll_len p (by simpa using g1) 0
              show (unrollFrom p 0).length ≤ 60
              omega
            refine ⟨_, unroll p, rfl, ⟨L, xs, rfl, hL, hx⟩, by omega, fun H2 M s2 nM hM => ?_⟩
            have s12 := s1.trans s2
            exact hA H2 M (But.of s12) ((Dom.of s1).none nM) ⟨a, ws, D.same s12, .inr ⟨dx, hd⟩⟩ hM
    rw [decide_eq_false h6]
    rw [if_neg h6] at hA
    exact iteF ⟨_, rfl, d, dx, _, rfl, hd, dkF_m_do_play, _, rfl, d, b, l, x, rfl, DE, hb, hl, hA⟩
def spNoList (C Ref : Addr) : Sp := fun vs H Q E => ∃ (d : Addr) (c : Int) (l : List Deed), vs = [.ref d, .int c] ∧ DkE C H d l ∧ Ans C Ref H d Q E (noX c l)
theorem sc_Desk_without_list : FnScope ["self", "call"] ["self", "call"] (defScope s_Desk_without_list) := ⟨rfl, rfl, rfl, by decide +kernel, rfl, by decide +kernel, by decide +kernel⟩
theorem ok_Desk_without_list {P : Program} {w : World} {K : PySem.W.Frag} {mg : Str → Option Value} {base : Heap} (T : Txt K mg) : FnOk P w K mg base (L2.CX P w) 8 T.Desk_without_list.f T.Desk_without_list.fd ["self", "call"] (spNoList T.Desk.C T.Ref) := by
  refine T.Desk_without_list.F.okX sc_Desk_without_list (fun vs H Q E h => ?_) (fun cdv A outer s H vs Q E hr h => ⟨_, (pss_cons (ps_if (pt_cmpR op_eq (pv 1) pe_int (nomark _))
    (pss_one (ps_ret (pe_meth0 (pv 0) T.Desk.cl T.Desk_do_drop.m (ok_Desk_do_drop T) (hr.mono (by decide)) T.Desk_do_drop.b .nil (passes_call (takes_of rfl rfl rfl rfl) fun _ _ _ _ h => h))))
    pss_nil)
    (pss_cons (ps_if (pt_cmpR op_eq (pv 1) pe_int (nomark _))
    (pss_one (ps_ret (pe_lst (by exact (pa_cons (pe_call (ok_many_foldings T) (hr.mono (by decide)) rfl T.many_foldings.g T.many_foldings.k T.many_foldings.b .nil pass0 (by exact (pa_cons (pe_fldK (K := K) (pv 0) rfl) pa_nil))) pa_nil)))))
    pss_nil)
    (pss_cons (ps_if (pt_cmpR op_eq (pv 1) pe_int (nomark _))
    (pss_one (ps_ret (pe_meth0 (pv 0) T.Desk.cl T.Desk_do_least.m (ok_Desk_do_least T) (hr.mono (by decide)) T.Desk_do_least.b .nil pass0)))
    pss_nil)
    (pss_cons (ps_if (pt_cmpR op_eq (pv 1) pe_int (nomark _))
    (pss_one (ps_ret (pe_meth0 (pv 0) T.Desk.cl T.Desk_do_next.m (ok_Desk_do_next T) (hr.mono (by decide)) T.Desk_do_next.b .nil pass0)))
    pss_nil)
    (pss_one (ps_ret (pe_ifExp (pt_cmpR op_eq (pv 1) pe_int (nomark _)) (pe_meth0 (pv 0) T.Desk.cl T.Desk_do_loops.m (ok_Desk_do_loops T) (hr.mono (by decide)) T.Desk_do_loops.b .nil pass0) (pe_call (ok_deeds_told T) (hr.mono (by decide)) rfl T.deeds_told.g T.deeds_told.k T.deeds_told.b .nil pass0 (by exact (pa_cons (pe_fldK (K := K) (pv 0) rfl) pa_nil)))))))))), ?_⟩)
  · obtain ⟨d, c, l, rfl, _⟩ := h
    rfl
  · obtain ⟨d, c, l, rfl, DE, hA⟩ := h
    obtain ⟨a, ws, D⟩ := id DE
    obtain ⟨dx, hd⟩ := D.obj
    have hfew := D.few
    unfold noX at hA
    refine ⟨_, rfl, rfl, _, rfl, ?_⟩
    rw [dec_eq]
    by_cases h2 : c = 2
    · rw [decide_eq_true h2]
      rw [if_pos h2] at hA
      exact iteT ⟨_, rfl, d, dx, _, rfl, hd, dkF_m_do_drop, d, l, rfl, DE, hA⟩
    rw [decide_eq_false h2]
    rw [if_neg h2] at hA
    refine iteF ⟨_, rfl, rfl, _, rfl, ?_⟩
    rw [dec_eq]
    by_cases h3 : c = 3
    · rw [decide_eq_true h3]
      rw [if_pos h3] at hA
      refine iteT ⟨_, rfl, d, _, dx, _, _, rfl, hd, T.Desk.cl, T.n_Desk_deeds, dkF_deeds, l, a, ws, rfl, D.rc, D.few, fun H1 s1 => ⟨by show 1 ≤ sizeLine; decide, fun M hM => ?_⟩⟩
      exact hA _ M (But.of (s1.trans (Same.new hM))) ((Dom.of s1).none hM) ⟨a, ws, D.same (s1.trans (Same.new hM)), .inr ⟨dx, hd⟩⟩ upd_same
    rw [decide_eq_false h3]
    rw [if_neg h3] at hA
    refine iteF ⟨_, rfl, rfl, _, rfl, ?_⟩
    rw [dec_eq]
    by_cases h4 : c = 4
    · rw [decide_eq_true h4]
      rw [if_pos h4] at hA
      exact iteT ⟨_, rfl, d, dx, _, rfl, hd, dkF_m_do_least, d, l, rfl, DE, hA⟩
    rw [decide_eq_false h4]
    rw [if_neg h4] at hA
    refine iteF ⟨_, rfl, rfl, _, rfl, ?_⟩
    rw [dec_eq]
    by_cases h7 : c = 7
    · rw [decide_eq_true h7]
      rw [if_pos h7] at hA
      exact iteT ⟨_, rfl, d, dx, _, rfl, hd, dkF_m_do_next, d, l, rfl, DE, hA⟩
    rw [decide_eq_false h7]
    rw [if_neg h7] at hA
    refine iteF ⟨_, rfl, rfl, _, rfl, ?_⟩
    rw [dec_eq]
    by_cases h8 : c = 8
    · rw [decide_eq_true h8]
      rw [if_pos h8] at hA
      exact iteT ⟨_, rfl, d, dx, _, rfl, hd, dkF_m_do_loops, d, l, rfl, DE, hA⟩
    rw [decide_eq_false h8]
    rw [if_neg h8] at hA
    refine iteF ⟨_, rfl, d, _, dx, _, _, rfl, hd, T.Desk.cl, T.n_Desk_deeds, dkF_deeds, .ref a, l, rfl, ⟨a, ws, rfl, D.rc.at_, D.rc.all⟩, by omega, fun H1 M s1 nM hM => ?_⟩
    exact hA H1 M (But.of s1) nM ⟨a, ws, D.same s1, .inr ⟨dx, hd⟩⟩ hM
end My
namespace My
open PySem PySem.Spec PyProof.Rows L2
/-! ### o.m(..) within a try: the wish of an exception is told by the slots -/
def tMethW (C : Addr) (m : Str) (sp : Sp) (dvs : List V) (E : L2.St → XK) (ta : TE) (t : TA) : TE := fun σ H Q => ta σ H fun x H1 => ∃ a dx fs, x = .ref a ∧ H1 a = some (.ins C dx fs) ∧ fs.lookup m = none ∧ t σ H1 fun vs H2 => sp (x :: (vs ++ dvs)) H2 Q (E σ)
section
variable {X : Cx} {CX : CXT} {k : Nat} {f C : Addr} {fd : FuncData} {ps : List Str} {sp : Sp} {dvs : List V} {ds : List Value} {E : L2.St → XK} {m : Str} {pos apos : Pos} {e o : Expr} {es : List Expr} {ta : TE} {t : TA}
theorem pe_methW {pl : Sem Bool} (he : PE X o ta) (c : Cls X.K C) (hm : Meth X.K C m f) (F : FnOk X.prog X.w X.K X.mg X.base CX k f fd ps sp) (hr : Room k X.A) (hb : Binds X.K fd ps ds) (hd : Vals dvs ds) (hx : ∀ σ, PassesAt CX X σ (E σ)) (ha : PA X (e :: es) t)
    (hst : starEach (e :: es) X.env = (false, eval e X.env) :: starEach es X.env := by rfl) (hpl : (backTo pos (starEach es X.env)).any (·.1) = false := by rfl)
    (ht : eval (.Call (.Attribute o m apos) (e :: es) [] pos) X.env = (do
      let ov ← eval o X.env
      standAt apos.atName
      let (f, first) ← holding [ov] (getMethod ov m pl)
      callWith pos f first (backTo pos (starEach (e :: es) X.env)) (backToKw pos (keywordEach [] X.env))) := by rfl) :
    PE X (.Call (.Attribute o m apos) (e :: es) [] pos) (tMethW C m sp dvs E ta t) := by
  refine ⟨fun pins s σ H Q I h => PySem.W.methodCall_KW (pl := pl) (thn (he.run pins s σ H _ I h) fun u s1 hh => ?_) ht⟩
  obtain ⟨x, H1, I1, rx, a, dx, fs, rfl, ea, l, q⟩ := hh
  cases rx
  refine getmeth_ok I1 ea c hm l (PySem.W.callWith_K (first := [.ref a]) (h₀ := X.base) I.ok.mod.kin hm.kp (thn (ha.run pos pins s1 σ H1 _ I1 q) fun us s2 hh => ?_) hst hpl)
  obtain ⟨vs, H2, I2, r, q2⟩ := hh
  exact ⟨I2.kIn, run_fnSD (us := .ref a :: us) (vs := .ref a :: vs) F hr hb hd (hx σ) I2 (.cons rfl r) q2⟩
end
end My
namespace My
open PySem PySem.Spec PyProof.Rows L2
open VamacBase (Deed Prog)
theorem no_wish {X : Cx} : Takes X (fun _ _ _ _ => False) := fun _ _ x => by
  obtain ⟨_, _, _, _, _, _, _, _, _, _, _, _, _, _, _, _, z⟩ := x
  exact z.elim
/-! ### lists of lists of ints, as data -/
theorem canLay_ints : ∀ l : List Int, PyData.canLayAll0 (l.map PyData.int) = true
  | [] => rfl
  | z :: l => canLay_ints l
theorem depth_ints : ∀ l : List Int, PyData.depthAll (l.map PyData.int) = 0
  | [] => rfl
  | z :: l => by
    show max 0 (PyData.depthAll (l.map PyData.int)) = 0
    rw [depth_ints l]
    rfl
theorem dp_ints {K : PySem.W.Frag} {H : Hp} : ∀ l : List Int, DpAll K H (l.map V.int) (l.map PyData.int)
  | [] => .nil
  | z :: l => .cons (.int z) (dp_ints l)
theorem shaped_ints (l : List Int) : SeqAt.shaped (.list [.list (l.map PyData.int)]) = true := by
  show ((PyData.canLayAll0 (l.map PyData.int) && true) && decide (max (PyData.depthAll (l.map PyData.int) + 1) 0 + 1 ≤ 64)) = true
  rw [canLay_ints, depth_ints]
  rfl
/-- what a call leaves and answers, an error told by its number -/
def resOf (l : List Deed) : Except Int (List Deed × List Int) → List Deed × List Int
  | .error c => (l, [c])
  | .ok x => x
/-- answer -/
def spAnswer (K : PySem.W.Frag) (C : Addr) : Sp := fun vs H Q _ => ∃ (d b : Addr) (c : Int) (l : List Deed) (o : List Deed × List Int), vs = [.ref d, .int c, .ref b] ∧ DkE C H d l ∧
  ((H b = some (.lst []) ∧ o = resOf l (noX c l)) ∨ ∃ (m : Addr) (x : List Int), H b = some (.lst [.ref m]) ∧ H m = some (.lst (x.map V.int)) ∧ x.length ≤ 100000 ∧ o = resOf l (withX c l x)) ∧
  ∀ H' L, But d H H' → H L = none → DkN C H H' d o.1 → H' L = some (.lst (o.2.map V.int)) → Q (.ref L) H'
theorem DkE.keep {C : Addr} {H H' : Hp} {d : Addr} {l : List Deed} (A : DkE C H d l) (e : Same H H') : DkN C H H' d l :=
  let ⟨a, ws, h⟩ := A
  ⟨a, ws, h.same e, .inr h.obj⟩
theorem DkN.back {C : Addr} {H H1 H' : Hp} {d : Addr} {l l' : List Deed} (N : DkN C H1 H' d l') (s : Same H H1) (A : DkE C H d l) : DkN C H H' d l' := by
  obtain ⟨a, ws, D, h⟩ := N
  refine ⟨a, ws, D, h.elim (fun h => .inl ((Dom.of s).none h)) fun ⟨dx, h⟩ => .inr ⟨dx, ?_⟩⟩
  obtain ⟨_, _, DA⟩ := A
  obtain ⟨dy, hd⟩ := DA.obj
  rw [hd, ← s _ _ hd]
  exact h
theorem ans_try {C Ref : Addr} {H H1 : Hp} {d : Addr} {l : List Deed} {o : List Deed × List Int} {r : Except Int (List Deed × List Int)} {Q Q' : VK} {E' : XK} (s : Same H H1) (DE : DkE C H d l) (ho : o = resOf l r)
    (hQ : ∀ H' L, But d H H' → H L = none → DkN C H H' d o.1 → H' L = some (.lst (o.2.map V.int)) → Q (.ref L) H') (hok : ∀ L H', Q (.ref L) H' → Q' (.ref L) H')
    (herr : ∀ c dd H', H' dd = some (.xd [(("code" : Str), .int c)]) → (∀ L, H' L = none → Q (.ref L) (upd H' L (.lst [.int c]))) → E' (.ref Ref) (some dd) H') : Ans C Ref H1 d Q' E' r := by
  cases r with
  | error c =>
    subst ho
    intro dd H' s' hx
    exact herr c dd H' hx fun L hL => hQ _ L (But.of ((s.trans s').trans (Same.new hL))) ((Dom.of (s.trans s')).none hL) (DE.keep ((s.trans s').trans (Same.new hL))) upd_same
  | ok x =>
    subst ho
    intro H' L b nL D h
    exact hok _ _ (hQ H' L ((But.of s).trans b) ((Dom.of s).none nL) (D.back s DE) h)
theorem sc_Desk_answer : FnScope ["self", "call", "lists", "found", "e"] ["self", "call", "lists"] (defScope s_Desk_answer) := ⟨rfl, rfl, rfl, by decide +kernel, rfl, by decide +kernel, by decide +kernel⟩
theorem ok_Desk_answer {P : Program} {w : World} {K : PySem.W.Frag} {mg : Str → Option Value} {base : Heap} (T : Txt K mg) : FnOk P w K mg base CX0 24 T.Desk_answer.f T.Desk_answer.fd ["self", "call", "lists"] (spAnswer K T.Desk.C) := by
  refine T.Desk_answer.F.ok sc_Desk_answer (fun vs H Q E h => ?_) (fun cdv A outer s H vs Q E hr h => ⟨_, (pss_cons (ps_try_as (i := 4)
    (tb := fun W => tAsg (tIf (tTest (tOp (rNeD K) (tVar 2) (tLst tNil))) (tMethW T.Desk.C "with_list" (spWithList K T.Desk.C T.Ref) [] (WE W) (tVar 0) (tCons (tVar 1) (tCons (tOp (rIxL K) (tVar 2) (tC (.int 0))) tNil))) (tMethW T.Desk.C "without_list" (spNoList T.Desk.C T.Ref) [] (WE W) (tVar 0) (tCons (tVar 1) tNil))) (gName 3))
    (ts := fun a cls d => tAsg (tLst (tCons (tByLow T.Ref a cls d (tVar 4)) tNil)) (gName 3)) (Wout := fun _ _ _ _ => False) rfl rfl sc_Desk_answer.nd rfl rfl ⟨rfl, by decide, Or.inl T.low.gC⟩ no_wish
    (fun W pn xe tk _ => pss_one (ps_set (i := 3) sc_Desk_answer.nd rfl (Or.inl rfl) (pe_ifExp (pt_cmpR (op_neDK (K := K) hr.units) (pv 2) (pe_lst pa_nil) (nomark _))
      (by exact (pe_methW (pv 0) T.Desk.cl T.Desk_with_list.m (ok_Desk_with_list T) (hr.mono (by decide)) T.Desk_with_list.b .nil (fun σ => passAt tk σ) (by exact (pa_cons (pv 1) (pa_cons (pe_ix (ix_listK (K := K)) (pv 2) pe_int (fun _ _ => rfl)) pa_nil)))))
      (by exact (pe_methW (pv 0) T.Desk.cl T.Desk_without_list.m (ok_Desk_without_list T) (hr.mono (by decide)) T.Desk_without_list.b .nil (fun σ => passAt tk σ) (by exact (pa_cons (pv 1) pa_nil)))))))
    (fun a oe cls d pn hz hf => pss_one (ps_set (i := 3) sc_Desk_answer.nd rfl (Or.inl rfl) (by exact (pe_lst (by exact (pa_cons (pe_byLow T.low hz hf (pv 4)) pa_nil)))))))
    (pss_one (ps_ret (pv 3)))), ?_⟩)
  · obtain ⟨d, b, c, l, o, rfl, _⟩ := h
    rfl
  · obtain ⟨d, b, c, l, o, rfl, DE, hb, hQ⟩ := h
    obtain ⟨a, ws, D⟩ := id DE
    obtain ⟨dx, hd⟩ := D.obj
    refine ⟨_, rfl, by show 0 ≤ sizeLine; decide, fun y hy => ?_⟩
    have s1 := Same.new (o := .lst []) hy
    have hy1 : (upd H y (.lst [])) y = some (.lst []) := upd_same
    generalize upd H y (.lst []) = H1 at s1 hy1 ⊢
    have hd1 := s1 _ _ hd
    have DE1 := DE.same s1
    rcases hb with ⟨hb, ho⟩ | ⟨m, x, hb, hm, hx, ho⟩
    · refine ⟨.list [], .list [], .lst (SqL.of (s1 _ _ hb)) .nil, .lst (SqL.of hy1) .nil, rfl, rfl, _, rfl, ?_⟩
      have ev : (!PyData.eqv (.list []) (.list [])) = false := by simp [PyData.eqv, PyData.eqvAll]
      rw [ev]
      refine iteF ⟨_, rfl, d, dx, _, rfl, hd1, dkF_m_without_list, _, rfl, d, c, l, rfl, DE1, ?_⟩
      refine ans_try s1 DE ho hQ (fun L H' q => ⟨_, rfl, q⟩) fun c0 dd H' hxd q => ?_
      exact ⟨true, T.low.te, fun _ a0 na => ⟨_, rfl, rfl, rfl, dd, _, rfl, hxd, by show 1 ≤ sizeLine; decide, fun L hL => ⟨_, rfl, q L hL⟩⟩, fun z => Bool.noConfusion z⟩
    · refine ⟨.list [.list (x.map PyData.int)], .list [], .lst (SqL.of (s1 _ _ hb)) (.cons (.lst (SqL.of (s1 _ _ hm)) (dp_ints x)) .nil), .lst (SqL.of hy1) .nil, shaped_ints x, rfl, _, rfl, ?_⟩
      have ev : (!PyData.eqv (.list [.list (x.map PyData.int)]) (.list [])) = true := by simp [PyData.eqv, PyData.eqvAll]
      rw [ev]
      refine iteT ⟨_, rfl, d, dx, _, rfl, hd1, dkF_m_with_list, _, rfl, _, rfl, b, _, 0, _, rfl, rfl, SqL.of (s1 _ _ hb), at0, d, m, c, l, x, rfl, DE1, SqL.of (s1 _ _ hm), hx, ?_⟩
      refine ans_try s1 DE ho hQ (fun L H' q => ⟨_, rfl, q⟩) fun c0 dd H' hxd q => ?_
      exact ⟨true, T.low.te, fun _ a0 na => ⟨_, rfl, rfl, rfl, dd, _, rfl, hxd, by show 1 ≤ sizeLine; decide, fun L hL => ⟨_, rfl, q L hL⟩⟩, fun z => Bool.noConfusion z⟩
end My
namespace My
open PySem PySem.Spec PyProof.Rows L2
open VamacBase (Deed Prog readListed readDeed readProg readTable whole flatDeeds)
open Vamacb (foldings leastOf)
/-! ### the specification's step, by number -/
theorem step_no {p : Int} (h : noList p) (l : List Deed) : VamacbNeutral.step ⟨l⟩ [[p]] = (⟨(resOf l (noX p l)).1⟩, (resOf l (noX p l)).2) := by
  rcases h with rfl | rfl | rfl | rfl | rfl | rfl
  · show (if l.isEmpty then ((⟨l⟩ : Vamacb.State), [(-2 : Int)]) else (⟨l.dropLast⟩, [Vamacb.int (l.length - 1)])) = (⟨(resOf l (dropX l)).1⟩, (resOf l (dropX l)).2)
    unfold dropX
    by_cases hl : l.isEmpty = true
    · rw [if_pos hl, if_pos hl]
      rfl
    · rw [if_neg hl, if_neg hl]
      rfl
  · rfl
  · rfl
  · rfl
  · rfl
  · rfl
theorem step_with {p : Int} (h : withList p) (l : List Deed) (x : List Int) (hok : l.all okF = true) (h14 : l.length ≤ 14) : VamacbNeutral.step ⟨l⟩ [[p], x] = (⟨(resOf l (withX p l x)).1⟩, (resOf l (withX p l x)).2) := by
  rcases h with rfl | rfl | rfl | rfl | rfl
  · show (match whole (readListed 0 14 readDeed) x with
      | none => ((⟨l⟩ : Vamacb.State), [(-1 : Int)])
      | some d => (⟨d⟩, [Vamacb.int d.length])) = (⟨(resOf l (recordX l x)).1⟩, (resOf l (recordX l x)).2)
    unfold recordX
    cases whole (readListed 0 14 readDeed) x <;> rfl
  · show (match whole readDeed x with
      | none => ((⟨l⟩ : Vamacb.State), [(-1 : Int)])
      | some d => if 14 ≤ l.length then (⟨l⟩, [-6]) else (⟨l ++ [d]⟩, [Vamacb.int (l.length + 1)])) = (⟨(resOf l (addX l x)).1⟩, (resOf l (addX l x)).2)
    unfold addX
    cases whole readDeed x with
    | none => rfl
    | some d =>
      by_cases h14 : 14 ≤ l.length
      · simp only [if_pos h14]
        rfl
      · simp only [if_neg h14]
        rfl
  · show ((⟨l⟩ : Vamacb.State), match whole readProg x with
      | none => [(-1 : Int)]
      | some p => if !Vamacb.isCounted p then [-4] else if 60 < Vamacb.lengthOf p then [-7] else match Vamacb.firstOther (Vamacb.unroll p) l with
        | none => [1]
        | some i => [0, Vamacb.int i]) = (⟨(resOf l (isX l x)).1⟩, (resOf l (isX l x)).2)
    unfold isX
    cases whole readProg x with
    | none => rfl
    | some p =>
      cases hc : Vamacb.isCounted p with
      | false =>
        simp only [hc]
        rfl
      | true =>
        by_cases h60 : 60 < Vamacb.lengthOf p
        · simp only [hc, if_pos h60]
          rfl
        · simp only [hc, if_neg h60]
          rfl
  · show ((⟨l⟩ : Vamacb.State), match whole readProg x with
      | none => [(-1 : Int)]
      | some p => if !Vamacb.isCounted p then [-4] else if 60 < Vamacb.lengthOf p then [-7] else flatDeeds (Vamacb.unroll p)) = (⟨(resOf l (unrollX l x)).1⟩, (resOf l (unrollX l x)).2)
    unfold unrollX
    cases whole readProg x with
    | none => rfl
    | some p =>
      cases hc : Vamacb.isCounted p with
      | false =>
        simp only [hc]
        rfl
      | true =>
        by_cases h60 : 60 < Vamacb.lengthOf p
        · simp only [hc, if_pos h60]
          rfl
        · simp only [hc, if_neg h60]
          rfl
  · show ((⟨l⟩ : Vamacb.State), match whole readTable x with
      | none => [(-1 : Int)]
      | some t => VamacBase.badNumber (VamacBase.run (leastOf l) t).bad :: Vamacb.int (VamacBase.run (leastOf l) t).trace.length :: VamacBase.flatTable (VamacBase.run (leastOf l) t).table) = (⟨(resOf l (playX l x)).1⟩, (resOf l (playX l x)).2)
    unfold playX
    cases whole readTable x with
    | none => rfl
    | some t =>
      have g := good_least hok
      have e := play_eq (t := t) g.plain (by rw [g.long]; omega)
      exact congrArg (fun z => ((⟨l⟩ : Vamacb.State), z)) e
end My
namespace My
open PySem PySem.Spec PyProof.Rows L2
open VamacBase (Deed Prog)
/-! ### the calls of the list -/
theorem drop_cons {A : Type} {l r : List A} {k : Nat} {x : A} (h : l.drop k = x :: r) : l[k]? = some x ∧ l.drop (k + 1) = r ∧ r.length + (k + 1) = l.length := by
  have hl := congrArg List.length h
  rw [List.length_drop, List.length_cons] at hl
  refine ⟨?_, ?_, by omega⟩
  · have e : (l.drop k)[0]? = some x := by rw [h]; rfl
    rw [List.getElem?_drop] at e
    exact e
  · rw [← List.drop_drop, h]
    rfl
theorem cut_mid {ns : List Int} {j n : Nat} (h : j + n ≤ ns.length) : cutV (ns.map V.int) (some (j : Int)) (some ((j : Int) + (n : Int))) = ((ns.drop j).take n).map V.int := by
  unfold cutV
  rw [show ((j : Int) + (n : Int)) = ((j + n : Nat) : Int) by omega, HT.sIx_nat, HT.sIx_nat, List.length_map, Nat.min_eq_left (show j ≤ ns.length by omega), Nat.min_eq_left h, Nat.add_sub_cancel_left, ← List.map_drop, ← List.map_take]
theorem list_same {K : PySem.W.Frag} {H H' : Hp} {a : Addr} {xs : List V} (e : Same H H') (h : SqL K H a xs) : SqL K H' a xs :=
  h.elim (fun h => .inl (h.elim (fun h => .inl (e _ _ h)) fun ⟨o, h⟩ => .inr ⟨o, e _ _ h⟩)) fun h => .inr h
theorem in_no {p : Int} (h : noList p) : inV (.int p) (([0, 1, 5, 6, 9] : List Int).map V.int) = false := by
  rcases h with rfl | rfl | rfl | rfl | rfl | rfl <;> rfl
theorem in_with {p : Int} (h : withList p) : inV (.int p) (([0, 1, 5, 6, 9] : List Int).map V.int) = true := by
  rcases h with rfl | rfl | rfl | rfl | rfl <;> rfl
/-- the list that a call has, laid out -/
def Laid (H : Hp) (y : Addr) (p : Int) (c : List (List Int)) : Prop := (noList p ∧ c = [[p]] ∧ H y = some (.lst [])) ∨ ∃ (m : Addr) (x : List Int), withList p ∧ c = [[p], x] ∧ H y = some (.lst [.ref m]) ∧ H m = some (.lst (x.map V.int)) ∧ x.length ≤ 100000
def spAns (K : PySem.W.Frag) : Sp := fun vs H Q _ => ∃ (a : Addr) (ns : List Int), vs = [.ref a] ∧ SqL K H a (ns.map V.int) ∧ ns.length ≤ 5000 ∧ PyVamacb.answers_asked ns = true ∧ ∀ H' p, H' p = some (.lst ((PyVamacb.answers ns).map V.int)) → Q (.ref p) H'
theorem sc_answers : FnScope ["calls", "desk", "found", "at", "call", "behind", "lists", "told"] ["calls"] (defScope s_answers) := ⟨rfl, rfl, rfl, by decide +kernel, rfl, by decide +kernel, by decide +kernel⟩
theorem ok_answers {P : Program} {w : World} {K : PySem.W.Frag} {mg : Str → Option Value} {base : Heap} (T : Txt K mg) : FnOk P w K mg base CX0 30 T.answers.f T.answers.fd ["calls"] (spAns K) := by
  refine T.answers.F.ok sc_answers (fun vs H Q E h => ?_) (fun cdv A outer s H vs Q E hr h => ⟨_, (pss_cons (ps_set (i := 1) sc_answers.nd rfl (Or.inl rfl) (pe_make0 T.mk_Desk (ok_Desk_init T) (hr.mono (by decide)) rfl T.Desk.g T.Desk_init.b .nil pass0))
    (pss_cons (ps_set (i := 2) sc_answers.nd rfl (Or.inl rfl) (pe_lst pa_nil))
    (pss_cons (ps_set (i := 3) sc_answers.nd rfl (Or.inl rfl) pe_int)
    (pss_cons (ps_while PassesOwn.never (pt_cmpR op_lt (pv 3) (pe_callB (call_lenK (K := K)) (by rfl) T.z_len PySem.boot_len (by exact (pa_cons (pv 0) pa_nil))) (nomark _))
    (pss_cons (ps_set (i := 4) sc_answers.nd rfl (Or.inl rfl) (pe_ix (ix_listK (K := K)) (pv 0) (pv 3) (fun _ _ => rfl)))
    (pss_cons (ps_set (i := 5) sc_answers.nd rfl (Or.inl rfl) (pe_op op_add (pv 3) pe_int))
    (pss_cons (ps_set (i := 6) sc_answers.nd rfl (Or.inl rfl) (pe_lst pa_nil))
    (pss_cons (ps_if (pt_cmpR (op_inK (K := K)) (pv 4) (pe_tupc (by rfl) T.WITH_LIST) (by rfl))
    (pss_cons (ps_expr (pe_bm PySem.F.plainAttrs_list PySem.F.slot_list_append PySem.F.type_list_append mt_append (pv 6) (by exact (pa_cons (pe_slice (sl_listK (K := K)) (pv 0) (po_some (pe_op op_add (pv 5) pe_int)) (po_some (pe_op op_add (pe_op op_add (pv 5) pe_int) (pe_ix (ix_listK (K := K)) (pv 0) (pv 5) (fun _ _ => rfl))))) pa_nil))))
    (pss_one (ps_set (i := 5) sc_answers.nd rfl (Or.inl rfl) (pe_op op_add (pe_op op_add (pv 5) pe_int) (pe_ix (ix_listK (K := K)) (pv 0) (pv 5) (fun _ _ => rfl))))))
    pss_nil)
    (pss_cons (ps_set (i := 7) sc_answers.nd rfl (Or.inl rfl) (pe_meth (pv 1) T.Desk.cl T.Desk_answer.m (ok_Desk_answer T) (hr.mono (by decide)) T.Desk_answer.b .nil pass0 (by exact (pa_cons (pv 4) (pa_cons (pv 6) pa_nil)))))
    (pss_cons (ps_expr (pe_bm PySem.F.plainAttrs_list PySem.F.slot_list_append PySem.F.type_list_append mt_append (pv 2) (by exact (pa_cons (pe_callB (call_lenK (K := K)) (by rfl) T.z_len PySem.boot_len (by exact (pa_cons (pv 7) pa_nil))) pa_nil))))
    (pss_cons (ps_expr (pe_bm PySem.F.plainAttrs_list PySem.F.slot_list_extend PySem.F.type_list_extend mt_extend (pv 2) (by exact (pa_cons (pv 7) pa_nil))))
    (pss_one (ps_set (i := 3) sc_answers.nd rfl (Or.inl rfl) (pv 5)))))))))))
    (pss_one (ps_ret (pv 2))))))), ?_⟩)
  · obtain ⟨a, ns, rfl, _⟩ := h
    rfl
  · obtain ⟨a, ns, rfl, sq, hn, ask, hQ⟩ := h
    have hm := hr.units
    obtain ⟨cs, f, hcs, hans, hlong⟩ := asked_calls ask
    have big : ∀ n : Nat, n ≤ 10000000 → n < sizeLine := fun n hn => Nat.lt_of_le_of_lt hn (by show 10000000 < 2 ^ 24; decide)
    intro d dx nd ndx ne
    have s0 : Same H (upd (upd H dx (.own d)) d (.ins T.Desk.C dx [])) := Same.mut (Same.new ndx) nd
    refine ⟨d, dx, rfl, upd_same, fun H1 DE1 b1 => ⟨rfl, ?_⟩⟩
    have s1 : Same H H1 := fun c o e => b1 c o (s0 c o e) (ne_of_none e nd)
    refine ⟨by show 0 ≤ sizeLine; decide, fun F nF => ?_⟩
    have s2 := Same.new (o := .lst []) nF
    have hF2 : (upd H1 F (.lst [])) F = some (.lst []) := upd_same
    have nF0 := (Dom.of s1).none nF
    obtain ⟨wa0, ws0, D1⟩ := DE1
    have D2 := D1.same s2
    have hwa0 : wa0 ≠ F := ne_of_none D1.rc.at_ nF
    have s12 := s1.trans s2
    generalize upd H1 F (.lst []) = H2 at s2 hF2 D2 s12 ⊢
    refine ⟨fun m σ H' => ∃ (k : Nat) (cs : List (List (List Int))) (f : Nat) (l : List Deed) (out : List Int) (wa : Addr) (ws : List V) (v4 v5 v6 v7 : Option V), σ = [some (.ref a), some (.ref d), some (.ref F), some (.int (k : Nat)), v4, v5, v6, v7] ∧ k ≤ ns.length ∧ m = ns.length - k ∧
      PyFlat.calls PyVamacb.shape f (ns.drop k) = some cs ∧ Same H H' ∧ Dk T.Desk.C H' d l wa ws ∧ wa ≠ F ∧ H' F = some (.lst (out.map V.int)) ∧ out ++ toldFrom ⟨l⟩ cs = PyVamacb.answers ns,
      ⟨_, 0, cs, f, [], [], wa0, ws0, _, _, _, _, rfl, Nat.zero_le _, rfl, hcs, s12, D2, hwa0, hF2, hans.symm⟩, ?_⟩
    rintro m σ H3 ⟨k, cs, f, l, out, wa, ws, v4, v5, v6, v7, rfl, hk, rfl, hcs, s3, D3, hwa, hF3, hout⟩
    have sq3 := list_same s3 sq
    refine ⟨_, rfl, _, rfl, a, _, rfl, .inl sq3, _, _, rfl, rfl, _, rfl, ?_⟩
    rw [List.length_map]
    by_cases hlt : k < ns.length
    · rw [decide_eq_true (show ((k : Nat) : Int) < ((ns.length : Nat) : Int) by omega)]
      refine iteT ⟨_, fun σ' H' h => h, ?_⟩
      obtain ⟨p, r, hpr⟩ : ∃ p r, ns.drop k = p :: r := ⟨_, _, List.drop_eq_getElem_cons hlt⟩
      obtain ⟨hp, hr1, hrl⟩ := drop_cons hpr
      rw [hpr] at hcs
      obtain ⟨c, t, cs', f', rfl, ht, hcs'⟩ := calls_turn hcs
      have hmp : (ns.map V.int)[k]? = some (.int p) := by rw [List.getElem?_map, hp]; rfl
      refine ⟨_, rfl, _, rfl, a, _, _, _, rfl, rfl, sq3, atI_nat hmp, ?_⟩
      refine ⟨_, rfl, _, _, rfl, rfl, ?_⟩
      refine ⟨by show 0 ≤ sizeLine; decide, fun y ny => ?_⟩
      have s4 := Same.new (o := .lst []) ny
      have hy4 : (upd H3 y (.lst [])) y = some (.lst []) := upd_same
      generalize upd H3 y (.lst []) = H4 at s4 hy4 ⊢
      have sq4 := list_same s4 sq3
      unfold gName
      dsimp only
      refine r_ifI (I := fun σ' H' => ∃ (b : Nat) , σ' = [some (.ref a), some (.ref d), some (.ref F), some (.int (k : Nat)), some (.int p), some (.int (b : Nat)), some (.ref y), v7] ∧ Same H3 H' ∧ k < b ∧ b ≤ ns.length ∧ ns.drop b = t ∧ Laid H' y p c) (fun nx hnx => ?_) ?_
      · refine ⟨_, rfl, _, _, rfl, .inr (T.WITH_LIST.t _), rfl, rfl, _, rfl, ?_⟩
        cases ht with
        | no hno =>
          rw [in_no hno]
          refine iteF (hnx _ _ ⟨k + 1, rfl, s4, Nat.lt_succ_self _, by omega, hr1, .inl ⟨hno, rfl, hy4⟩⟩)
        | @lst _ n r' hw h0 hn =>
          rw [in_with hw]
          obtain ⟨hn1, hr2, hrl2⟩ := drop_cons hr1
          have hmn : (ns.map V.int)[k + 1]? = some (.int n) := by rw [List.getElem?_map, hn1]; rfl
          have hmn4 : atI (ns.map V.int) (((k : Nat) : Int) + 1) = some (.int n) := atI_nat hmn
          obtain ⟨n, rfl⟩ : ∃ n' : Nat, n = n' := ⟨n.toNat, by omega⟩
          rw [Int.toNat_natCast] at hn
          refine iteT ⟨_, rfl, tyL hy4, ?_⟩
          refine ⟨_, rfl, _, rfl, _, _, rfl, rfl, _, rfl, _, rfl, _, _, rfl, rfl, _, rfl, _, rfl, a, _, _, _, rfl, rfl, sq4, hmn4, _, _, rfl, rfl, _, rfl, ?_⟩
          refine ⟨a, _, rfl, sq4, fun z nz => ?_⟩
          have ecut : cutV (ns.map V.int) (some (((k : Nat) : Int) + 1 + 1)) (some (((k : Nat) : Int) + 1 + 1 + (n : Int))) = (r'.take n).map V.int := by
            have e := cut_mid (ns := ns) (j := k + 1 + 1) (n := n) (by omega)
            rw [hr2] at e
            exact e
          rw [ecut]
          have s5 := Same.new (o := .lst ((r'.take n).map V.int)) nz
          have hz5 : (upd H4 z (.lst ((r'.take n).map V.int))) z = some (.lst ((r'.take n).map V.int)) := upd_same
          generalize upd H4 z (.lst ((r'.take n).map V.int)) = H5 at s5 hz5 ⊢
          have hy5 := s5 _ _ hy4
          refine ⟨y, [], _, rfl, rfl, hy5, by show 0 < 2 ^ 24; decide, ?_⟩
          have hzy : z ≠ y := ne_of_none hy4 nz |>.symm
          have s6 : Same H3 (upd H5 y (.lst ([] ++ [.ref z]))) := Same.mut (s4.trans s5) ny
          have hy6 : (upd H5 y (.lst ([] ++ [.ref z]))) y = some (.lst [.ref z]) := upd_same
          have hz6 : (upd H5 y (.lst ([] ++ [.ref z]))) z = some (.lst ((r'.take n).map V.int)) := by rw [upd_ne hzy]; exact hz5
          generalize upd H5 y (.lst ([] ++ [.ref z])) = H6 at s6 hy6 hz6 ⊢
          refine ⟨_, rfl, _, _, rfl, rfl, _, rfl, _, rfl, a, _, _, _, rfl, rfl, list_same s6 sq3, hmn4, _, _, rfl, rfl, ?_⟩
          refine hnx _ _ ⟨k + 1 + 1 + n, rfl, s6, by omega, by omega, ?_, .inr ⟨z, _, hw, rfl, hy6, hz6, ?_⟩⟩
          · rw [← hr2, List.drop_drop]
            rfl
          · rw [List.length_take]; omega
      · rintro σ' H7 ⟨b, rfl, s7, hkb, hbn, hbt, hlaid⟩
        have D7 := D3.same s7
        obtain ⟨ddx, hd7⟩ := D7.obj
        have hF7 := s7 _ _ hF3
        have hFd : F ≠ d := ne_of hF7 hd7 (by intro z; cases z)
        obtain ⟨o, ho, hst⟩ : ∃ o : List Deed × List Int, ((H7 y = some (.lst []) ∧ o = resOf l (noX p l)) ∨ ∃ (m : Addr) (x : List Int), H7 y = some (.lst [.ref m]) ∧ H7 m = some (.lst (x.map V.int)) ∧ x.length ≤ 100000 ∧ o = resOf l (withX p l x)) ∧ VamacbNeutral.step ⟨l⟩ c = (⟨o.1⟩, o.2) := by
          rcases hlaid with ⟨h1, rfl, h2⟩ | ⟨m, x, h1, rfl, h2, h3, h4⟩
          · exact ⟨_, .inl ⟨h2, rfl⟩, step_no h1 l⟩
          · exact ⟨_, .inr ⟨m, x, h2, h3, h4, rfl⟩, step_with h1 l x D7.ok D7.few⟩
        rw [told_cons _ ht, hst] at hout
        have hout : out ++ ((o.2.length : Int) :: o.2 ++ toldFrom ⟨o.1⟩ cs') = PyVamacb.answers ns := hout
        have hlen := congrArg List.length hout
        rw [List.length_append, List.length_append, List.length_cons] at hlen
        refine ⟨_, rfl, d, ddx, _, rfl, hd7, dkF_m_answer, _, rfl, _, rfl, ?_⟩
        refine ⟨d, y, p, l, o, rfl, ⟨wa, ws, D7⟩, ho, fun H8 L b8 nL N8 hL => ?_⟩
        have s8 : Same H H8 := ((But.of (s3.trans s7)).trans b8).same nd
        obtain ⟨wa8, ws8, D8, hwa8⟩ := N8
        have hF8 := b8 _ _ hF7 hFd
        have hLF : L ≠ F := (ne_of_none hF7 nL).symm
        have hwF : wa8 ≠ F := by
          rcases hwa8 with h | ⟨dx', h⟩
          · exact (ne_of_none hF7 h).symm
          · obtain ⟨dx7, hd7'⟩ := D7.obj
            rw [hd7'] at h
            injection h with h
            injection h with _ _ h
            injection h with h _
            injection h with _ h
            injection h with h
            rw [← h]
            exact hwa
        refine ⟨_, rfl, tyL hF8, _, rfl, L, _, rfl, .inl (SqL.of hL), ?_⟩
        rw [List.length_map]
        refine ⟨F, _, _, rfl, rfl, hF8, by rw [List.length_map]; exact big _ (by omega), ?_⟩
        have hF9 : (upd H8 F (.lst (out.map V.int ++ [V.int ((o.2.length : Nat) : Int)]))) F = some (.lst (out.map V.int ++ [V.int ((o.2.length : Nat) : Int)])) := upd_same
        refine ⟨_, rfl, tyL hF9, _, rfl, F, L, _, _, rfl, rfl, hF9, by rw [upd_ne hLF]; exact hL, Nat.le_of_lt (by rw [List.length_append, List.length_map, List.length_map]; exact big _ (by show out.length + 1 + o.2.length ≤ _; omega)), ?_⟩
        rw [upd_upd]
        have e10 : (out.map V.int ++ [V.int ((o.2.length : Nat) : Int)]) ++ o.2.map V.int = (out ++ ((o.2.length : Int) :: o.2)).map V.int := by
          rw [List.map_append, List.map_cons, List.append_assoc]
          rfl
        rw [e10]
        have hF10 : (upd H8 F (.lst ((out ++ ((o.2.length : Int) :: o.2)).map V.int))) F = some (.lst ((out ++ ((o.2.length : Int) :: o.2)).map V.int)) := upd_same
        have D10 : Dk T.Desk.C (upd H8 F (.lst ((out ++ ((o.2.length : Int) :: o.2)).map V.int))) d o.1 wa8 ws8 := by
          obtain ⟨dx8, hd8⟩ := D8.obj
          refine ⟨⟨dx8, by rw [upd_ne hFd.symm]; exact hd8⟩, ⟨by rw [upd_ne hwF]; exact D8.rc.at_, D8.rc.all.mono fun x v ⟨q, h1, h2⟩ => ⟨q, h1, ?_⟩⟩, D8.few, D8.ok⟩
          rw [upd_ne (ne_of h2 hF8 (by intro z; cases z))]
          exact h2
        have s10 : Same H (upd H8 F (.lst ((out ++ ((o.2.length : Int) :: o.2)).map V.int))) := Same.mut s8 nF0
        generalize upd H8 F (.lst ((out ++ ((o.2.length : Int) :: o.2)).map V.int)) = H10 at hF10 D10 s10 ⊢
        refine ⟨_, rfl, ns.length - b, by omega, b, cs', f', o.1, _, wa8, ws8, _, _, _, _, rfl, hbn, rfl, ?_, s10, D10, hwF, hF10, ?_⟩
        · rw [hbt]
          exact hcs'
        · rw [List.append_assoc]
          exact hout
    · rw [decide_eq_false (show ¬ ((k : Nat) : Int) < ((ns.length : Nat) : Int) by omega)]
      refine iteF ⟨_, rfl, ?_⟩
      rw [List.drop_eq_nil_of_le (by omega)] at hcs
      rw [calls_end hcs, told_nil, List.append_nil] at hout
      rw [hout] at hF3
      exact hQ _ _ hF3
end My
namespace My
open PySem PySem.Spec PyProof.Rows L2
theorem all_mk {P : Program} {w : World} {K : PySem.W.Frag} {h : Heap} {mg : Str → Option Value} {fa : Addr} (X : K.In h) (G : h.Ns mainGlobals mg) (hfa : mg "answers" = some (.ref fa))
  {C fR : Addr} {nm q : Str} {N : Addr} {bs : List Value} {sn : List Str} {sub : List Value} {ab : Bool} {col : Option Bool} {dd : Option Addr} {m0 m1 m2 m3 m5 : Option Value} {odR anR : Option Addr} {slR : Array (Option Value)} {ocR dcR pmR cdR ctR : Value}
  {C_Numbers : Addr}
  {C_Span : Addr}
  {C_Table : Addr}
  {C_Desk : Addr}
  {f1 : Addr} {od1 an1 : Option Addr} {sl1 : Array (Option Value)} {oc1 kV1 dc1 pm1 cd1 ct1 : Value}
  {f2 : Addr} {od2 an2 : Option Addr} {sl2 : Array (Option Value)} {oc2 kV2 dc2 pm2 cd2 ct2 : Value}
  {f3 : Addr} {od3 an3 : Option Addr} {sl3 : Array (Option Value)} {oc3 kV3 dc3 pm3 cd3 ct3 : Value}
  {f4 : Addr} {od4 an4 : Option Addr} {sl4 : Array (Option Value)} {oc4 kV4 dc4 pm4 cd4 ct4 : Value}
  {f5 : Addr} {od5 an5 : Option Addr} {sl5 : Array (Option Value)} {oc5 kV5 dc5 pm5 cd5 ct5 : Value}
  {f6 : Addr} {od6 an6 : Option Addr} {sl6 : Array (Option Value)} {oc6 kV6 dc6 pm6 cd6 ct6 : Value}
  {f7 : Addr} {od7 an7 : Option Addr} {sl7 : Array (Option Value)} {oc7 kV7 dc7 pm7 cd7 ct7 : Value}
  {f8 : Addr} {od8 an8 : Option Addr} {sl8 : Array (Option Value)} {oc8 kV8 dc8 pm8 cd8 ct8 : Value}
  {f9 : Addr} {od9 an9 : Option Addr} {sl9 : Array (Option Value)} {oc9 kV9 dc9 pm9 cd9 ct9 : Value}
  {f10 : Addr} {od10 an10 : Option Addr} {sl10 : Array (Option Value)} {oc10 kV10 dc10 pm10 cd10 ct10 : Value}
  {f11 : Addr} {od11 an11 : Option Addr} {sl11 : Array (Option Value)} {oc11 kV11 dc11 pm11 cd11 ct11 : Value}
  {f12 : Addr} {od12 an12 : Option Addr} {sl12 : Array (Option Value)} {oc12 kV12 dc12 pm12 cd12 ct12 : Value}
  {f13 : Addr} {od13 an13 : Option Addr} {sl13 : Array (Option Value)} {oc13 kV13 dc13 pm13 cd13 ct13 : Value}
  {f14 : Addr} {od14 an14 : Option Addr} {sl14 : Array (Option Value)} {oc14 kV14 dc14 pm14 cd14 ct14 : Value}
  {f15 : Addr} {od15 an15 : Option Addr} {sl15 : Array (Option Value)} {oc15 kV15 dc15 pm15 cd15 ct15 : Value}
  {f16 : Addr} {od16 an16 : Option Addr} {sl16 : Array (Option Value)} {oc16 kV16 dc16 pm16 cd16 ct16 : Value}
  {f17 : Addr} {od17 an17 : Option Addr} {sl17 : Array (Option Value)} {oc17 kV17 dc17 pm17 cd17 ct17 : Value}
  {f18 : Addr} {od18 an18 : Option Addr} {sl18 : Array (Option Value)} {oc18 kV18 dc18 pm18 cd18 ct18 : Value}
  {f19 : Addr} {od19 an19 : Option Addr} {sl19 : Array (Option Value)} {oc19 kV19 dc19 pm19 cd19 ct19 : Value}
  {f20 : Addr} {od20 an20 : Option Addr} {sl20 : Array (Option Value)} {oc20 kV20 dc20 pm20 cd20 ct20 : Value}
  {f21 : Addr} {od21 an21 : Option Addr} {sl21 : Array (Option Value)} {oc21 kV21 dc21 pm21 cd21 ct21 : Value}
  {f22 : Addr} {od22 an22 : Option Addr} {sl22 : Array (Option Value)} {oc22 kV22 dc22 pm22 cd22 ct22 : Value}
  {f23 : Addr} {od23 an23 : Option Addr} {sl23 : Array (Option Value)} {oc23 kV23 dc23 pm23 cd23 ct23 : Value}
  {f24 : Addr} {od24 an24 : Option Addr} {sl24 : Array (Option Value)} {oc24 kV24 dc24 pm24 cd24 ct24 : Value}
  {f25 : Addr} {od25 an25 : Option Addr} {sl25 : Array (Option Value)} {oc25 kV25 dc25 pm25 cd25 ct25 : Value}
  {f26 : Addr} {od26 an26 : Option Addr} {sl26 : Array (Option Value)} {oc26 kV26 dc26 pm26 cd26 ct26 : Value}
  {f27 : Addr} {od27 an27 : Option Addr} {sl27 : Array (Option Value)} {oc27 kV27 dc27 pm27 cd27 ct27 : Value}
  {f28 : Addr} {od28 an28 : Option Addr} {sl28 : Array (Option Value)} {oc28 kV28 dc28 pm28 cd28 ct28 : Value}
  {f29 : Addr} {od29 an29 : Option Addr} {sl29 : Array (Option Value)} {oc29 kV29 dc29 pm29 cd29 ct29 : Value}
  {f30 : Addr} {od30 an30 : Option Addr} {sl30 : Array (Option Value)} {oc30 kV30 dc30 pm30 cd30 ct30 : Value}
  {f31 : Addr} {od31 an31 : Option Addr} {sl31 : Array (Option Value)} {oc31 kV31 dc31 pm31 cd31 ct31 : Value}
  {f32 : Addr} {od32 an32 : Option Addr} {sl32 : Array (Option Value)} {oc32 kV32 dc32 pm32 cd32 ct32 : Value}
  {f33 : Addr} {od33 an33 : Option Addr} {sl33 : Array (Option Value)} {oc33 kV33 dc33 pm33 cd33 ct33 : Value}
  {f34 : Addr} {od34 an34 : Option Addr} {sl34 : Array (Option Value)} {oc34 kV34 dc34 pm34 cd34 ct34 : Value}
  {f35 : Addr} {od35 an35 : Option Addr} {sl35 : Array (Option Value)} {oc35 kV35 dc35 pm35 cd35 ct35 : Value}
  {f36 : Addr} {od36 an36 : Option Addr} {sl36 : Array (Option Value)} {oc36 kV36 dc36 pm36 cd36 ct36 : Value}
  {f37 : Addr} {od37 an37 : Option Addr} {sl37 : Array (Option Value)} {oc37 kV37 dc37 pm37 cd37 ct37 : Value}
  {f38 : Addr} {od38 an38 : Option Addr} {sl38 : Array (Option Value)} {oc38 kV38 dc38 pm38 cd38 ct38 : Value}
  {f39 : Addr} {od39 an39 : Option Addr} {sl39 : Array (Option Value)} {oc39 kV39 dc39 pm39 cd39 ct39 : Value}
  {f40 : Addr} {od40 an40 : Option Addr} {sl40 : Array (Option Value)} {oc40 kV40 dc40 pm40 cd40 ct40 : Value}
  {f41 : Addr} {od41 an41 : Option Addr} {sl41 : Array (Option Value)} {oc41 kV41 dc41 pm41 cd41 ct41 : Value}
  {f42 : Addr} {od42 an42 : Option Addr} {sl42 : Array (Option Value)} {oc42 kV42 dc42 pm42 cd42 ct42 : Value}
  {f43 : Addr} {od43 an43 : Option Addr} {sl43 : Array (Option Value)} {oc43 kV43 dc43 pm43 cd43 ct43 : Value}
  {f44 : Addr} {od44 an44 : Option Addr} {sl44 : Array (Option Value)} {oc44 kV44 dc44 pm44 cd44 ct44 : Value}
  {f45 : Addr} {od45 an45 : Option Addr} {sl45 : Array (Option Value)} {oc45 kV45 dc45 pm45 cd45 ct45 : Value}
  {f46 : Addr} {od46 an46 : Option Addr} {sl46 : Array (Option Value)} {oc46 kV46 dc46 pm46 cd46 ct46 : Value}
  {f47 : Addr} {od47 an47 : Option Addr} {sl47 : Array (Option Value)} {oc47 kV47 dc47 pm47 cd47 ct47 : Value}
  {f48 : Addr} {od48 an48 : Option Addr} {sl48 : Array (Option Value)} {oc48 kV48 dc48 pm48 cd48 ct48 : Value}
  {f49 : Addr} {od49 an49 : Option Addr} {sl49 : Array (Option Value)} {oc49 kV49 dc49 pm49 cd49 ct49 : Value}
  {f50 : Addr} {od50 an50 : Option Addr} {sl50 : Array (Option Value)} {oc50 kV50 dc50 pm50 cd50 ct50 : Value}
  {f51 : Addr} {od51 an51 : Option Addr} {sl51 : Array (Option Value)} {oc51 kV51 dc51 pm51 cd51 ct51 : Value}
  {f52 : Addr} {od52 an52 : Option Addr} {sl52 : Array (Option Value)} {oc52 kV52 dc52 pm52 cd52 ct52 : Value}
  {f53 : Addr} {od53 an53 : Option Addr} {sl53 : Array (Option Value)} {oc53 kV53 dc53 pm53 cd53 ct53 : Value}
  {f54 : Addr} {od54 an54 : Option Addr} {sl54 : Array (Option Value)} {oc54 kV54 dc54 pm54 cd54 ct54 : Value}
  {f55 : Addr} {od55 an55 : Option Addr} {sl55 : Array (Option Value)} {oc55 kV55 dc55 pm55 cd55 ct55 : Value}
  {f56 : Addr} {od56 an56 : Option Addr} {sl56 : Array (Option Value)} {oc56 kV56 dc56 pm56 cd56 ct56 : Value}
  {f57 : Addr} {od57 an57 : Option Addr} {sl57 : Array (Option Value)} {oc57 kV57 dc57 pm57 cd57 ct57 : Value}
  {f58 : Addr} {od58 an58 : Option Addr} {sl58 : Array (Option Value)} {oc58 kV58 dc58 pm58 cd58 ct58 : Value}
  {f59 : Addr} {od59 an59 : Option Addr} {sl59 : Array (Option Value)} {oc59 kV59 dc59 pm59 cd59 ct59 : Value}
  {f60 : Addr} {od60 an60 : Option Addr} {sl60 : Array (Option Value)} {oc60 kV60 dc60 pm60 cd60 ct60 : Value}
  {f61 : Addr} {od61 an61 : Option Addr} {sl61 : Array (Option Value)} {oc61 kV61 dc61 pm61 cd61 ct61 : Value}
  {f62 : Addr} {od62 an62 : Option Addr} {sl62 : Array (Option Value)} {oc62 kV62 dc62 pm62 cd62 ct62 : Value}
  {f63 : Addr} {od63 an63 : Option Addr} {sl63 : Array (Option Value)} {oc63 kV63 dc63 pm63 cd63 ct63 : Value}
  {f64 : Addr} {od64 an64 : Option Addr} {sl64 : Array (Option Value)} {oc64 kV64 dc64 pm64 cd64 ct64 : Value}
  {f65 : Addr} {od65 an65 : Option Addr} {sl65 : Array (Option Value)} {oc65 kV65 dc65 pm65 cd65 ct65 : Value}
  {f66 : Addr} {od66 an66 : Option Addr} {sl66 : Array (Option Value)} {oc66 kV66 dc66 pm66 cd66 ct66 : Value}
  {f67 : Addr} {od67 an67 : Option Addr} {sl67 : Array (Option Value)} {oc67 kV67 dc67 pm67 cd67 ct67 : Value}
  {f68 : Addr} {od68 an68 : Option Addr} {sl68 : Array (Option Value)} {oc68 kV68 dc68 pm68 cd68 ct68 : Value}
  {f69 : Addr} {od69 an69 : Option Addr} {sl69 : Array (Option Value)} {oc69 kV69 dc69 pm69 cd69 ct69 : Value}
  {t_DOWN : Tok}
  {t_UP : Tok}
  {t_TOP : Tok}
  {t_WRITE : Tok}
  {t_ADD : Tok}
  {t_COPY : Tok}
  {t_PASTE : Tok}
  {t_DELETE : Tok}
  {t_DOUBLE : Tok}
  {t_FIND : Tok}
  {t_LAST_FIELD : Tok}
  {t_MOST : Tok}
  {t_MOST_DEEDS : Tok}
  {t_BAD : Tok}
  {t_DEED : Tok}
  {t_LOOP : Tok}
  {t_TO_END : Tok}
  {t_PART : Tok}
  {t_MOST_ROUNDS : Tok}
  {t_MOST_PIECES : Tok}
  {t_MOST_DEEP : Tok}
  {t_LEAST_ROUNDS : Tok}
  {t_MOST_ROWS : Tok}
  {t_FIELDS : Tok}
  {t_NO_ROW : Tok}
  {t_AT_TOP : Tok}
  {t_TOO_GREAT : Tok}
  {t_FULL_tables : Tok}
  {t_NONE_FOUND : Tok}
  {t_NO_DEEDS : Tok}
  {t_NOT_PLAIN : Tok}
  {t_FULL_desk : Tok}
  {t_TOO_MANY : Tok}
  {t_MOST_TOLD : Tok}
  {w_WITH_FIELD : Addr} {dd_WITH_FIELD : Option Addr} {sl_WITH_FIELD : Array (Option Value)} {n_WITH_FIELD : Nat} {t_WITH_FIELD_0 t_WITH_FIELD_1 t_WITH_FIELD_2 t_WITH_FIELD_3 t_WITH_FIELD_4 : Tok}
  {w_WITH_NUMBER : Addr} {dd_WITH_NUMBER : Option Addr} {sl_WITH_NUMBER : Array (Option Value)} {n_WITH_NUMBER : Nat} {t_WITH_NUMBER_0 t_WITH_NUMBER_1 t_WITH_NUMBER_2 : Tok}
  {w_WITH_LIST : Addr} {dd_WITH_LIST : Option Addr} {sl_WITH_LIST : Array (Option Value)} {n_WITH_LIST : Nat} {t_WITH_LIST_0 t_WITH_LIST_1 t_WITH_LIST_2 t_WITH_LIST_3 t_WITH_LIST_4 : Tok}
  (aR : PySem.W.nsIn K mainGlobals "Refused" = some (some (.ref C)))
  (xL : K.lookup C = some (excClassObj nm q C N bs [.type "ValueError", .type "Exception", .type "BaseException", .type "object"] true sn sub ab col dd m0 m1 m2 m3 m5 "ValueError.__new__"))
  (sa : PySem.W.findIn K (.ref C) "__setattr__" = some (some (.builtin "object.__setattr__")))
  (ga : PySem.W.findIn K (.ref C) "__getattribute__" = some (some (.builtin "BaseException.__getattribute__")))
  (gg : PySem.W.findIn K (.ref C) "__getattr__" = some none)
  (nb : PySem.W.findIn K (.ref C) "code" = some none)
  (aRI : PySem.W.findIn K (.ref C) "__init__" = some (some (.ref fR)))
  (tRI : PySem.W.typeIn K (.ref fR) = some (.type "function"))
  (lRI : K.lookup fR = some ⟨ocR, odR, .func (PySem.W.fnOf "__init__" "Refused.__init__" (PySem.LowX.iA ⟨19, 17, 19, 21⟩ ⟨19, 23, 19, 27⟩) (PySem.LowX.iB ⟨20, 8, 20, 12⟩ ⟨20, 8, 20, 17⟩ ⟨20, 20, 20, 24⟩ ⟨20, 8, 20, 24⟩) PySem.LowX.iS .none .none dcR pmR anR cdR ctR), slR⟩)
  (cRI : PySem.W.codeIn K cdR "Refused.__init__" = true)
  (kR : PySem.W.keepIn K (.ref C) = true)
  (eR : PySem.W.subIn K (.ref C) (.type "BaseException") = some true)
  (tR : PySem.W.typeIn K (.ref C) = some (.type "type"))
  (hR : PySem.W.hasDictIn K C = true)
  (iR : PySem.W.isClsIn K C = true)
  (sR : PySem.W.subIn K (.ref C) (.ref C) = some true)
  (a_Numbers : PySem.W.nsIn K mainGlobals "Numbers" = some (some (.ref C_Numbers)))
  (pg_Numbers : PySem.W.plainGet K C_Numbers Str.empty = true)
  (hd_Numbers : PySem.W.hasDictIn K C_Numbers = true)
  (po_Numbers : PySem.W.plainOver K C_Numbers = true)
  (sa_Numbers : PySem.W.findIn K (.ref C_Numbers) "__setattr__" = some (some (.builtin "object.__setattr__")))
  (mk_Numbers : PySem.W.makesIn K C_Numbers = true)
  (kp_Numbers : PySem.W.keepIn K (.ref C_Numbers) = true)
  (n_Numbers_some : PySem.W.findIn K (.ref C_Numbers) "some" = some none)
  (n_Numbers_done : PySem.W.findIn K (.ref C_Numbers) "done" = some none)
  (a_Span : PySem.W.nsIn K mainGlobals "Span" = some (some (.ref C_Span)))
  (pg_Span : PySem.W.plainGet K C_Span Str.empty = true)
  (hd_Span : PySem.W.hasDictIn K C_Span = true)
  (po_Span : PySem.W.plainOver K C_Span = true)
  (sa_Span : PySem.W.findIn K (.ref C_Span) "__setattr__" = some (some (.builtin "object.__setattr__")))
  (mk_Span : PySem.W.makesIn K C_Span = true)
  (kp_Span : PySem.W.keepIn K (.ref C_Span) = true)
  (n_Span_recording : PySem.W.findIn K (.ref C_Span) "recording" = some none)
  (n_Span_place : PySem.W.findIn K (.ref C_Span) "place" = some none)
  (n_Span_length : PySem.W.findIn K (.ref C_Span) "length" = some none)
  (n_Span_rounds : PySem.W.findIn K (.ref C_Span) "rounds" = some none)
  (a_Table : PySem.W.nsIn K mainGlobals "Table" = some (some (.ref C_Table)))
  (pg_Table : PySem.W.plainGet K C_Table Str.empty = true)
  (hd_Table : PySem.W.hasDictIn K C_Table = true)
  (po_Table : PySem.W.plainOver K C_Table = true)
  (sa_Table : PySem.W.findIn K (.ref C_Table) "__setattr__" = some (some (.builtin "object.__setattr__")))
  (mk_Table : PySem.W.makesIn K C_Table = true)
  (kp_Table : PySem.W.keepIn K (.ref C_Table) = true)
  (n_Table_rows : PySem.W.findIn K (.ref C_Table) "rows" = some none)
  (n_Table_cursor : PySem.W.findIn K (.ref C_Table) "cursor" = some none)
  (n_Table_clip : PySem.W.findIn K (.ref C_Table) "clip" = some none)
  (a_Desk : PySem.W.nsIn K mainGlobals "Desk" = some (some (.ref C_Desk)))
  (pg_Desk : PySem.W.plainGet K C_Desk Str.empty = true)
  (hd_Desk : PySem.W.hasDictIn K C_Desk = true)
  (po_Desk : PySem.W.plainOver K C_Desk = true)
  (sa_Desk : PySem.W.findIn K (.ref C_Desk) "__setattr__" = some (some (.builtin "object.__setattr__")))
  (mk_Desk : PySem.W.makesIn K C_Desk = true)
  (kp_Desk : PySem.W.keepIn K (.ref C_Desk) = true)
  (n_Desk_deeds : PySem.W.findIn K (.ref C_Desk) "deeds" = some none)
  (a1 : PySem.W.nsIn K mainGlobals "want" = some (some (.ref f1)))
  (l1 : K.lookup f1 = some ⟨oc1, od1, .func (PySem.W.fnOf "want" "want" (defArgs s_want) (defBody s_want) (defScope s_want) .none kV1 dc1 pm1 an1 cd1 ct1), sl1⟩)
  (c1 : PySem.W.codeIn K cd1 "want" = true)
  (k1 : PySem.W.keepIn K (.ref f1) = true)
  (a2 : PySem.W.findIn K (.ref C_Numbers) "__init__" = some (some (.ref f2)))
  (i2 : PySem.W.isFn K (.ref f2) = true)
  (l2 : K.lookup f2 = some ⟨oc2, od2, .func (PySem.W.fnOf "__init__" "Numbers.__init__" (defArgs s_Numbers_init) (defBody s_Numbers_init) (defScope s_Numbers_init) .none kV2 dc2 pm2 an2 cd2 ct2), sl2⟩)
  (c2 : PySem.W.codeIn K cd2 "Numbers.__init__" = true)
  (k2 : PySem.W.keepIn K (.ref f2) = true)
  (a3 : PySem.W.findIn K (.ref C_Numbers) "take" = some (some (.ref f3)))
  (i3 : PySem.W.isFn K (.ref f3) = true)
  (l3 : K.lookup f3 = some ⟨oc3, od3, .func (PySem.W.fnOf "take" "Numbers.take" (defArgs s_Numbers_take) (defBody s_Numbers_take) (defScope s_Numbers_take) .none kV3 dc3 pm3 an3 cd3 ct3), sl3⟩)
  (c3 : PySem.W.codeIn K cd3 "Numbers.take" = true)
  (k3 : PySem.W.keepIn K (.ref f3) = true)
  (a4 : PySem.W.findIn K (.ref C_Numbers) "end" = some (some (.ref f4)))
  (i4 : PySem.W.isFn K (.ref f4) = true)
  (l4 : K.lookup f4 = some ⟨oc4, od4, .func (PySem.W.fnOf "end" "Numbers.end" (defArgs s_Numbers_end) (defBody s_Numbers_end) (defScope s_Numbers_end) .none kV4 dc4 pm4 an4 cd4 ct4), sl4⟩)
  (c4 : PySem.W.codeIn K cd4 "Numbers.end" = true)
  (k4 : PySem.W.keepIn K (.ref f4) = true)
  (a5 : PySem.W.nsIn K mainGlobals "read_deed" = some (some (.ref f5)))
  (l5 : K.lookup f5 = some ⟨oc5, od5, .func (PySem.W.fnOf "read_deed" "read_deed" (defArgs s_read_deed) (defBody s_read_deed) (defScope s_read_deed) .none kV5 dc5 pm5 an5 cd5 ct5), sl5⟩)
  (c5 : PySem.W.codeIn K cd5 "read_deed" = true)
  (k5 : PySem.W.keepIn K (.ref f5) = true)
  (a6 : PySem.W.nsIn K mainGlobals "whole_deed" = some (some (.ref f6)))
  (l6 : K.lookup f6 = some ⟨oc6, od6, .func (PySem.W.fnOf "whole_deed" "whole_deed" (defArgs s_whole_deed) (defBody s_whole_deed) (defScope s_whole_deed) .none kV6 dc6 pm6 an6 cd6 ct6), sl6⟩)
  (c6 : PySem.W.codeIn K cd6 "whole_deed" = true)
  (k6 : PySem.W.keepIn K (.ref f6) = true)
  (a7 : PySem.W.nsIn K mainGlobals "whole_recording" = some (some (.ref f7)))
  (l7 : K.lookup f7 = some ⟨oc7, od7, .func (PySem.W.fnOf "whole_recording" "whole_recording" (defArgs s_whole_recording) (defBody s_whole_recording) (defScope s_whole_recording) .none kV7 dc7 pm7 an7 cd7 ct7), sl7⟩)
  (c7 : PySem.W.codeIn K cd7 "whole_recording" = true)
  (k7 : PySem.W.keepIn K (.ref f7) = true)
  (a8 : PySem.W.nsIn K mainGlobals "deed_told" = some (some (.ref f8)))
  (l8 : K.lookup f8 = some ⟨oc8, od8, .func (PySem.W.fnOf "deed_told" "deed_told" (defArgs s_deed_told) (defBody s_deed_told) (defScope s_deed_told) .none kV8 dc8 pm8 an8 cd8 ct8), sl8⟩)
  (c8 : PySem.W.codeIn K cd8 "deed_told" = true)
  (k8 : PySem.W.keepIn K (.ref f8) = true)
  (a9 : PySem.W.nsIn K mainGlobals "deeds_told" = some (some (.ref f9)))
  (l9 : K.lookup f9 = some ⟨oc9, od9, .func (PySem.W.fnOf "deeds_told" "deeds_told" (defArgs s_deeds_told) (defBody s_deeds_told) (defScope s_deeds_told) .none kV9 dc9 pm9 an9 cd9 ct9), sl9⟩)
  (c9 : PySem.W.codeIn K cd9 "deeds_told" = true)
  (k9 : PySem.W.keepIn K (.ref f9) = true)
  (a10 : PySem.W.nsIn K mainGlobals "grown" = some (some (.ref f10)))
  (l10 : K.lookup f10 = some ⟨oc10, od10, .func (PySem.W.fnOf "grown" "grown" (defArgs s_grown) (defBody s_grown) (defScope s_grown) .none kV10 dc10 pm10 an10 cd10 ct10), sl10⟩)
  (c10 : PySem.W.codeIn K cd10 "grown" = true)
  (k10 : PySem.W.keepIn K (.ref f10) = true)
  (a11 : PySem.W.nsIn K mainGlobals "step_of" = some (some (.ref f11)))
  (l11 : K.lookup f11 = some ⟨oc11, od11, .func (PySem.W.fnOf "step_of" "step_of" (defArgs s_step_of) (defBody s_step_of) (defScope s_step_of) .none kV11 dc11 pm11 an11 cd11 ct11), sl11⟩)
  (c11 : PySem.W.codeIn K cd11 "step_of" = true)
  (k11 : PySem.W.keepIn K (.ref f11) = true)
  (a12 : PySem.W.nsIn K mainGlobals "read_piece" = some (some (.ref f12)))
  (l12 : K.lookup f12 = some ⟨oc12, od12, .func (PySem.W.fnOf "read_piece" "read_piece" (defArgs s_read_piece) (defBody s_read_piece) (defScope s_read_piece) .none kV12 dc12 pm12 an12 cd12 ct12), sl12⟩)
  (c12 : PySem.W.codeIn K cd12 "read_piece" = true)
  (k12 : PySem.W.keepIn K (.ref f12) = true)
  (a13 : PySem.W.nsIn K mainGlobals "read_row" = some (some (.ref f13)))
  (l13 : K.lookup f13 = some ⟨oc13, od13, .func (PySem.W.fnOf "read_row" "read_row" (defArgs s_read_row) (defBody s_read_row) (defScope s_read_row) .none kV13 dc13 pm13 an13 cd13 ct13), sl13⟩)
  (c13 : PySem.W.codeIn K cd13 "read_row" = true)
  (k13 : PySem.W.keepIn K (.ref f13) = true)
  (a14 : PySem.W.nsIn K mainGlobals "whole_program" = some (some (.ref f14)))
  (l14 : K.lookup f14 = some ⟨oc14, od14, .func (PySem.W.fnOf "whole_program" "whole_program" (defArgs s_whole_program) (defBody s_whole_program) (defScope s_whole_program) .none kV14 dc14 pm14 an14 cd14 ct14), sl14⟩)
  (c14 : PySem.W.codeIn K cd14 "whole_program" = true)
  (k14 : PySem.W.keepIn K (.ref f14) = true)
  (a15 : PySem.W.nsIn K mainGlobals "many_pieces" = some (some (.ref f15)))
  (l15 : K.lookup f15 = some ⟨oc15, od15, .func (PySem.W.fnOf "many_pieces" "many_pieces" (defArgs s_many_pieces) (defBody s_many_pieces) (defScope s_many_pieces) .none kV15 dc15 pm15 an15 cd15 ct15), sl15⟩)
  (c15 : PySem.W.codeIn K cd15 "many_pieces" = true)
  (k15 : PySem.W.keepIn K (.ref f15) = true)
  (a16 : PySem.W.nsIn K mainGlobals "is_plain" = some (some (.ref f16)))
  (l16 : K.lookup f16 = some ⟨oc16, od16, .func (PySem.W.fnOf "is_plain" "is_plain" (defArgs s_is_plain) (defBody s_is_plain) (defScope s_is_plain) .none kV16 dc16 pm16 an16 cd16 ct16), sl16⟩)
  (c16 : PySem.W.codeIn K cd16 "is_plain" = true)
  (k16 : PySem.W.keepIn K (.ref f16) = true)
  (a17 : PySem.W.nsIn K mainGlobals "many_told" = some (some (.ref f17)))
  (l17 : K.lookup f17 = some ⟨oc17, od17, .func (PySem.W.fnOf "many_told" "many_told" (defArgs s_many_told) (defBody s_many_told) (defScope s_many_told) .none kV17 dc17 pm17 an17 cd17 ct17), sl17⟩)
  (c17 : PySem.W.codeIn K cd17 "many_told" = true)
  (k17 : PySem.W.keepIn K (.ref f17) = true)
  (a18 : PySem.W.nsIn K mainGlobals "told_by" = some (some (.ref f18)))
  (l18 : K.lookup f18 = some ⟨oc18, od18, .func (PySem.W.fnOf "told_by" "told_by" (defArgs s_told_by) (defBody s_told_by) (defScope s_told_by) .none kV18 dc18 pm18 an18 cd18 ct18), sl18⟩)
  (c18 : PySem.W.codeIn K cd18 "told_by" = true)
  (k18 : PySem.W.keepIn K (.ref f18) = true)
  (a19 : PySem.W.nsIn K mainGlobals "row_told" = some (some (.ref f19)))
  (l19 : K.lookup f19 = some ⟨oc19, od19, .func (PySem.W.fnOf "row_told" "row_told" (defArgs s_row_told) (defBody s_row_told) (defScope s_row_told) .none kV19 dc19 pm19 an19 cd19 ct19), sl19⟩)
  (c19 : PySem.W.codeIn K cd19 "row_told" = true)
  (k19 : PySem.W.keepIn K (.ref f19) = true)
  (a20 : PySem.W.findIn K (.ref C_Span) "__init__" = some (some (.ref f20)))
  (i20 : PySem.W.isFn K (.ref f20) = true)
  (l20 : K.lookup f20 = some ⟨oc20, od20, .func (PySem.W.fnOf "__init__" "Span.__init__" (defArgs s_Span_init) (defBody s_Span_init) (defScope s_Span_init) .none kV20 dc20 pm20 an20 cd20 ct20), sl20⟩)
  (c20 : PySem.W.codeIn K cd20 "Span.__init__" = true)
  (k20 : PySem.W.keepIn K (.ref f20) = true)
  (a21 : PySem.W.findIn K (.ref C_Span) "at" = some (some (.ref f21)))
  (i21 : PySem.W.isFn K (.ref f21) = true)
  (l21 : K.lookup f21 = some ⟨oc21, od21, .func (PySem.W.fnOf "at" "Span.at" (defArgs s_Span_at) (defBody s_Span_at) (defScope s_Span_at) .none kV21 dc21 pm21 an21 cd21 ct21), sl21⟩)
  (c21 : PySem.W.codeIn K cd21 "Span.at" = true)
  (k21 : PySem.W.keepIn K (.ref f21) = true)
  (a22 : PySem.W.findIn K (.ref C_Span) "step_at" = some (some (.ref f22)))
  (i22 : PySem.W.isFn K (.ref f22) = true)
  (l22 : K.lookup f22 = some ⟨oc22, od22, .func (PySem.W.fnOf "step_at" "Span.step_at" (defArgs s_Span_step_at) (defBody s_Span_step_at) (defScope s_Span_step_at) .none kV22 dc22 pm22 an22 cd22 ct22), sl22⟩)
  (c22 : PySem.W.codeIn K cd22 "Span.step_at" = true)
  (k22 : PySem.W.keepIn K (.ref f22) = true)
  (a23 : PySem.W.findIn K (.ref C_Span) "is_same_at" = some (some (.ref f23)))
  (i23 : PySem.W.isFn K (.ref f23) = true)
  (l23 : K.lookup f23 = some ⟨oc23, od23, .func (PySem.W.fnOf "is_same_at" "Span.is_same_at" (defArgs s_Span_is_same_at) (defBody s_Span_is_same_at) (defScope s_Span_is_same_at) .none kV23 dc23 pm23 an23 cd23 ct23), sl23⟩)
  (c23 : PySem.W.codeIn K cd23 "Span.is_same_at" = true)
  (k23 : PySem.W.keepIn K (.ref f23) = true)
  (a24 : PySem.W.findIn K (.ref C_Span) "is_plain_loop" = some (some (.ref f24)))
  (i24 : PySem.W.isFn K (.ref f24) = true)
  (l24 : K.lookup f24 = some ⟨oc24, od24, .func (PySem.W.fnOf "is_plain_loop" "Span.is_plain_loop" (defArgs s_Span_is_plain_loop) (defBody s_Span_is_plain_loop) (defScope s_Span_is_plain_loop) .none kV24 dc24 pm24 an24 cd24 ct24), sl24⟩)
  (c24 : PySem.W.codeIn K cd24 "Span.is_plain_loop" = true)
  (k24 : PySem.W.keepIn K (.ref f24) = true)
  (a25 : PySem.W.findIn K (.ref C_Span) "deed_piece" = some (some (.ref f25)))
  (i25 : PySem.W.isFn K (.ref f25) = true)
  (l25 : K.lookup f25 = some ⟨oc25, od25, .func (PySem.W.fnOf "deed_piece" "Span.deed_piece" (defArgs s_Span_deed_piece) (defBody s_Span_deed_piece) (defScope s_Span_deed_piece) .none kV25 dc25 pm25 an25 cd25 ct25), sl25⟩)
  (c25 : PySem.W.codeIn K cd25 "Span.deed_piece" = true)
  (k25 : PySem.W.keepIn K (.ref f25) = true)
  (a26 : PySem.W.findIn K (.ref C_Span) "plain_piece" = some (some (.ref f26)))
  (i26 : PySem.W.isFn K (.ref f26) = true)
  (l26 : K.lookup f26 = some ⟨oc26, od26, .func (PySem.W.fnOf "plain_piece" "Span.plain_piece" (defArgs s_Span_plain_piece) (defBody s_Span_plain_piece) (defScope s_Span_plain_piece) .none kV26 dc26 pm26 an26 cd26 ct26), sl26⟩)
  (c26 : PySem.W.codeIn K cd26 "Span.plain_piece" = true)
  (k26 : PySem.W.keepIn K (.ref f26) = true)
  (a27 : PySem.W.findIn K (.ref C_Span) "inner_spans" = some (some (.ref f27)))
  (i27 : PySem.W.isFn K (.ref f27) = true)
  (l27 : K.lookup f27 = some ⟨oc27, od27, .func (PySem.W.fnOf "inner_spans" "Span.inner_spans" (defArgs s_Span_inner_spans) (defBody s_Span_inner_spans) (defScope s_Span_inner_spans) .none kV27 dc27 pm27 an27 cd27 ct27), sl27⟩)
  (c27 : PySem.W.codeIn K cd27 "Span.inner_spans" = true)
  (k27 : PySem.W.keepIn K (.ref f27) = true)
  (a28 : PySem.W.findIn K (.ref C_Span) "are_same" = some (some (.ref f28)))
  (i28 : PySem.W.isFn K (.ref f28) = true)
  (l28 : K.lookup f28 = some ⟨oc28, od28, .func (PySem.W.fnOf "are_same" "Span.are_same" (defArgs s_Span_are_same) (defBody s_Span_are_same) (defScope s_Span_are_same) .none kV28 dc28 pm28 an28 cd28 ct28), sl28⟩)
  (c28 : PySem.W.codeIn K cd28 "Span.are_same" = true)
  (k28 : PySem.W.keepIn K (.ref f28) = true)
  (a29 : PySem.W.findIn K (.ref C_Span) "long" = some (some (.ref f29)))
  (i29 : PySem.W.isFn K (.ref f29) = true)
  (l29 : K.lookup f29 = some ⟨oc29, od29, .func (PySem.W.fnOf "long" "Span.long" (defArgs s_Span_long) (defBody s_Span_long) (defScope s_Span_long) .none kV29 dc29 pm29 an29 cd29 ct29), sl29⟩)
  (c29 : PySem.W.codeIn K cd29 "Span.long" = true)
  (k29 : PySem.W.keepIn K (.ref f29) = true)
  (a30 : PySem.W.findIn K (.ref C_Span) "many_bodies" = some (some (.ref f30)))
  (i30 : PySem.W.isFn K (.ref f30) = true)
  (l30 : K.lookup f30 = some ⟨oc30, od30, .func (PySem.W.fnOf "many_bodies" "Span.many_bodies" (defArgs s_Span_many_bodies) (defBody s_Span_many_bodies) (defScope s_Span_many_bodies) .none kV30 dc30 pm30 an30 cd30 ct30), sl30⟩)
  (c30 : PySem.W.codeIn K cd30 "Span.many_bodies" = true)
  (k30 : PySem.W.keepIn K (.ref f30) = true)
  (a31 : PySem.W.findIn K (.ref C_Span) "least_body" = some (some (.ref f31)))
  (i31 : PySem.W.isFn K (.ref f31) = true)
  (l31 : K.lookup f31 = some ⟨oc31, od31, .func (PySem.W.fnOf "least_body" "Span.least_body" (defArgs s_Span_least_body) (defBody s_Span_least_body) (defScope s_Span_least_body) .none kV31 dc31 pm31 an31 cd31 ct31), sl31⟩)
  (c31 : PySem.W.codeIn K cd31 "Span.least_body" = true)
  (k31 : PySem.W.keepIn K (.ref f31) = true)
  (a32 : PySem.W.nsIn K mainGlobals "spans_at" = some (some (.ref f32)))
  (l32 : K.lookup f32 = some ⟨oc32, od32, .func (PySem.W.fnOf "spans_at" "spans_at" (defArgs s_spans_at) (defBody s_spans_at) (defScope s_spans_at) .none kV32 dc32 pm32 an32 cd32 ct32), sl32⟩)
  (c32 : PySem.W.codeIn K cd32 "spans_at" = true)
  (k32 : PySem.W.keepIn K (.ref f32) = true)
  (a33 : PySem.W.nsIn K mainGlobals "with_piece" = some (some (.ref f33)))
  (l33 : K.lookup f33 = some ⟨oc33, od33, .func (PySem.W.fnOf "with_piece" "with_piece" (defArgs s_with_piece) (defBody s_with_piece) (defScope s_with_piece) .none kV33 dc33 pm33 an33 cd33 ct33), sl33⟩)
  (c33 : PySem.W.codeIn K cd33 "with_piece" = true)
  (k33 : PySem.W.keepIn K (.ref f33) = true)
  (a34 : PySem.W.nsIn K mainGlobals "lesser" = some (some (.ref f34)))
  (l34 : K.lookup f34 = some ⟨oc34, od34, .func (PySem.W.fnOf "lesser" "lesser" (defArgs s_lesser) (defBody s_lesser) (defScope s_lesser) .none kV34 dc34 pm34 an34 cd34 ct34), sl34⟩)
  (c34 : PySem.W.codeIn K cd34 "lesser" = true)
  (k34 : PySem.W.keepIn K (.ref f34) = true)
  (a35 : PySem.W.nsIn K mainGlobals "many_foldings" = some (some (.ref f35)))
  (l35 : K.lookup f35 = some ⟨oc35, od35, .func (PySem.W.fnOf "many_foldings" "many_foldings" (defArgs s_many_foldings) (defBody s_many_foldings) (defScope s_many_foldings) .none kV35 dc35 pm35 an35 cd35 ct35), sl35⟩)
  (c35 : PySem.W.codeIn K cd35 "many_foldings" = true)
  (k35 : PySem.W.keepIn K (.ref f35) = true)
  (a36 : PySem.W.nsIn K mainGlobals "least_folding" = some (some (.ref f36)))
  (l36 : K.lookup f36 = some ⟨oc36, od36, .func (PySem.W.fnOf "least_folding" "least_folding" (defArgs s_least_folding) (defBody s_least_folding) (defScope s_least_folding) .none kV36 dc36 pm36 an36 cd36 ct36), sl36⟩)
  (c36 : PySem.W.codeIn K cd36 "least_folding" = true)
  (k36 : PySem.W.keepIn K (.ref f36) = true)
  (a37 : PySem.W.nsIn K mainGlobals "plain_loops" = some (some (.ref f37)))
  (l37 : K.lookup f37 = some ⟨oc37, od37, .func (PySem.W.fnOf "plain_loops" "plain_loops" (defArgs s_plain_loops) (defBody s_plain_loops) (defScope s_plain_loops) .none kV37 dc37 pm37 an37 cd37 ct37), sl37⟩)
  (c37 : PySem.W.codeIn K cd37 "plain_loops" = true)
  (k37 : PySem.W.keepIn K (.ref f37) = true)
  (a38 : PySem.W.nsIn K mainGlobals "does_show" = some (some (.ref f38)))
  (l38 : K.lookup f38 = some ⟨oc38, od38, .func (PySem.W.fnOf "does_show" "does_show" (defArgs s_does_show) (defBody s_does_show) (defScope s_does_show) .none kV38 dc38 pm38 an38 cd38 ct38), sl38⟩)
  (c38 : PySem.W.codeIn K cd38 "does_show" = true)
  (k38 : PySem.W.keepIn K (.ref f38) = true)
  (a39 : PySem.W.nsIn K mainGlobals "tail_of" = some (some (.ref f39)))
  (l39 : K.lookup f39 = some ⟨oc39, od39, .func (PySem.W.fnOf "tail_of" "tail_of" (defArgs s_tail_of) (defBody s_tail_of) (defScope s_tail_of) .none kV39 dc39 pm39 an39 cd39 ct39), sl39⟩)
  (c39 : PySem.W.codeIn K cd39 "tail_of" = true)
  (k39 : PySem.W.keepIn K (.ref f39) = true)
  (a40 : PySem.W.nsIn K mainGlobals "does_count" = some (some (.ref f40)))
  (l40 : K.lookup f40 = some ⟨oc40, od40, .func (PySem.W.fnOf "does_count" "does_count" (defArgs s_does_count) (defBody s_does_count) (defScope s_does_count) .none kV40 dc40 pm40 an40 cd40 ct40), sl40⟩)
  (c40 : PySem.W.codeIn K cd40 "does_count" = true)
  (k40 : PySem.W.keepIn K (.ref f40) = true)
  (a41 : PySem.W.nsIn K mainGlobals "best_period" = some (some (.ref f41)))
  (l41 : K.lookup f41 = some ⟨oc41, od41, .func (PySem.W.fnOf "best_period" "best_period" (defArgs s_best_period) (defBody s_best_period) (defScope s_best_period) .none kV41 dc41 pm41 an41 cd41 ct41), sl41⟩)
  (c41 : PySem.W.codeIn K cd41 "best_period" = true)
  (k41 : PySem.W.keepIn K (.ref f41) = true)
  (a42 : PySem.W.nsIn K mainGlobals "next_deed" = some (some (.ref f42)))
  (l42 : K.lookup f42 = some ⟨oc42, od42, .func (PySem.W.fnOf "next_deed" "next_deed" (defArgs s_next_deed) (defBody s_next_deed) (defScope s_next_deed) .none kV42 dc42 pm42 an42 cd42 ct42), sl42⟩)
  (c42 : PySem.W.codeIn K cd42 "next_deed" = true)
  (k42 : PySem.W.keepIn K (.ref f42) = true)
  (a43 : PySem.W.findIn K (.ref C_Table) "__init__" = some (some (.ref f43)))
  (i43 : PySem.W.isFn K (.ref f43) = true)
  (l43 : K.lookup f43 = some ⟨oc43, od43, .func (PySem.W.fnOf "__init__" "Table.__init__" (defArgs s_Table_init) (defBody s_Table_init) (defScope s_Table_init) .none kV43 dc43 pm43 an43 cd43 ct43), sl43⟩)
  (c43 : PySem.W.codeIn K cd43 "Table.__init__" = true)
  (k43 : PySem.W.keepIn K (.ref f43) = true)
  (a44 : PySem.W.findIn K (.ref C_Table) "told" = some (some (.ref f44)))
  (i44 : PySem.W.isFn K (.ref f44) = true)
  (l44 : K.lookup f44 = some ⟨oc44, od44, .func (PySem.W.fnOf "told" "Table.told" (defArgs s_Table_told) (defBody s_Table_told) (defScope s_Table_told) .none kV44 dc44 pm44 an44 cd44 ct44), sl44⟩)
  (c44 : PySem.W.codeIn K cd44 "Table.told" = true)
  (k44 : PySem.W.keepIn K (.ref f44) = true)
  (a45 : PySem.W.findIn K (.ref C_Table) "has_here" = some (some (.ref f45)))
  (i45 : PySem.W.isFn K (.ref f45) = true)
  (l45 : K.lookup f45 = some ⟨oc45, od45, .func (PySem.W.fnOf "has_here" "Table.has_here" (defArgs s_Table_has_here) (defBody s_Table_has_here) (defScope s_Table_has_here) .none kV45 dc45 pm45 an45 cd45 ct45), sl45⟩)
  (c45 : PySem.W.codeIn K cd45 "Table.has_here" = true)
  (k45 : PySem.W.keepIn K (.ref f45) = true)
  (a46 : PySem.W.findIn K (.ref C_Table) "put" = some (some (.ref f46)))
  (i46 : PySem.W.isFn K (.ref f46) = true)
  (l46 : K.lookup f46 = some ⟨oc46, od46, .func (PySem.W.fnOf "put" "Table.put" (defArgs s_Table_put) (defBody s_Table_put) (defScope s_Table_put) .none kV46 dc46 pm46 an46 cd46 ct46), sl46⟩)
  (c46 : PySem.W.codeIn K cd46 "Table.put" = true)
  (k46 : PySem.W.keepIn K (.ref f46) = true)
  (a47 : PySem.W.findIn K (.ref C_Table) "go_up" = some (some (.ref f47)))
  (i47 : PySem.W.isFn K (.ref f47) = true)
  (l47 : K.lookup f47 = some ⟨oc47, od47, .func (PySem.W.fnOf "go_up" "Table.go_up" (defArgs s_Table_go_up) (defBody s_Table_go_up) (defScope s_Table_go_up) .none kV47 dc47 pm47 an47 cd47 ct47), sl47⟩)
  (c47 : PySem.W.codeIn K cd47 "Table.go_up" = true)
  (k47 : PySem.W.keepIn K (.ref f47) = true)
  (a48 : PySem.W.findIn K (.ref C_Table) "double" = some (some (.ref f48)))
  (i48 : PySem.W.isFn K (.ref f48) = true)
  (l48 : K.lookup f48 = some ⟨oc48, od48, .func (PySem.W.fnOf "double" "Table.double" (defArgs s_Table_double) (defBody s_Table_double) (defScope s_Table_double) .none kV48 dc48 pm48 an48 cd48 ct48), sl48⟩)
  (c48 : PySem.W.codeIn K cd48 "Table.double" = true)
  (k48 : PySem.W.keepIn K (.ref f48) = true)
  (a49 : PySem.W.findIn K (.ref C_Table) "find" = some (some (.ref f49)))
  (i49 : PySem.W.isFn K (.ref f49) = true)
  (l49 : K.lookup f49 = some ⟨oc49, od49, .func (PySem.W.fnOf "find" "Table.find" (defArgs s_Table_find) (defBody s_Table_find) (defScope s_Table_find) .none kV49 dc49 pm49 an49 cd49 ct49), sl49⟩)
  (c49 : PySem.W.codeIn K cd49 "Table.find" = true)
  (k49 : PySem.W.keepIn K (.ref f49) = true)
  (a50 : PySem.W.findIn K (.ref C_Table) "do" = some (some (.ref f50)))
  (i50 : PySem.W.isFn K (.ref f50) = true)
  (l50 : K.lookup f50 = some ⟨oc50, od50, .func (PySem.W.fnOf "do" "Table.do" (defArgs s_Table_do) (defBody s_Table_do) (defScope s_Table_do) .none kV50 dc50 pm50 an50 cd50 ct50), sl50⟩)
  (c50 : PySem.W.codeIn K cd50 "Table.do" = true)
  (k50 : PySem.W.keepIn K (.ref f50) = true)
  (a51 : PySem.W.findIn K (.ref C_Table) "do_here" = some (some (.ref f51)))
  (i51 : PySem.W.isFn K (.ref f51) = true)
  (l51 : K.lookup f51 = some ⟨oc51, od51, .func (PySem.W.fnOf "do_here" "Table.do_here" (defArgs s_Table_do_here) (defBody s_Table_do_here) (defScope s_Table_do_here) .none kV51 dc51 pm51 an51 cd51 ct51), sl51⟩)
  (c51 : PySem.W.codeIn K cd51 "Table.do_here" = true)
  (k51 : PySem.W.keepIn K (.ref f51) = true)
  (a52 : PySem.W.nsIn K mainGlobals "read_values" = some (some (.ref f52)))
  (l52 : K.lookup f52 = some ⟨oc52, od52, .func (PySem.W.fnOf "read_values" "read_values" (defArgs s_read_values) (defBody s_read_values) (defScope s_read_values) .none kV52 dc52 pm52 an52 cd52 ct52), sl52⟩)
  (c52 : PySem.W.codeIn K cd52 "read_values" = true)
  (k52 : PySem.W.keepIn K (.ref f52) = true)
  (a53 : PySem.W.nsIn K mainGlobals "whole_table" = some (some (.ref f53)))
  (l53 : K.lookup f53 = some ⟨oc53, od53, .func (PySem.W.fnOf "whole_table" "whole_table" (defArgs s_whole_table) (defBody s_whole_table) (defScope s_whole_table) .none kV53 dc53 pm53 an53 cd53 ct53), sl53⟩)
  (c53 : PySem.W.codeIn K cd53 "whole_table" = true)
  (k53 : PySem.W.keepIn K (.ref f53) = true)
  (a54 : PySem.W.nsIn K mainGlobals "run_on" = some (some (.ref f54)))
  (l54 : K.lookup f54 = some ⟨oc54, od54, .func (PySem.W.fnOf "run_on" "run_on" (defArgs s_run_on) (defBody s_run_on) (defScope s_run_on) .none kV54 dc54 pm54 an54 cd54 ct54), sl54⟩)
  (c54 : PySem.W.codeIn K cd54 "run_on" = true)
  (k54 : PySem.W.keepIn K (.ref f54) = true)
  (a55 : PySem.W.nsIn K mainGlobals "first_unlike" = some (some (.ref f55)))
  (l55 : K.lookup f55 = some ⟨oc55, od55, .func (PySem.W.fnOf "first_unlike" "first_unlike" (defArgs s_first_unlike) (defBody s_first_unlike) (defScope s_first_unlike) .none kV55 dc55 pm55 an55 cd55 ct55), sl55⟩)
  (c55 : PySem.W.codeIn K cd55 "first_unlike" = true)
  (k55 : PySem.W.keepIn K (.ref f55) = true)
  (a56 : PySem.W.nsIn K mainGlobals "deeds_of_program" = some (some (.ref f56)))
  (l56 : K.lookup f56 = some ⟨oc56, od56, .func (PySem.W.fnOf "deeds_of_program" "deeds_of_program" (defArgs s_deeds_of_program) (defBody s_deeds_of_program) (defScope s_deeds_of_program) .none kV56 dc56 pm56 an56 cd56 ct56), sl56⟩)
  (c56 : PySem.W.codeIn K cd56 "deeds_of_program" = true)
  (k56 : PySem.W.keepIn K (.ref f56) = true)
  (a57 : PySem.W.findIn K (.ref C_Desk) "__init__" = some (some (.ref f57)))
  (i57 : PySem.W.isFn K (.ref f57) = true)
  (l57 : K.lookup f57 = some ⟨oc57, od57, .func (PySem.W.fnOf "__init__" "Desk.__init__" (defArgs s_Desk_init) (defBody s_Desk_init) (defScope s_Desk_init) .none kV57 dc57 pm57 an57 cd57 ct57), sl57⟩)
  (c57 : PySem.W.codeIn K cd57 "Desk.__init__" = true)
  (k57 : PySem.W.keepIn K (.ref f57) = true)
  (a58 : PySem.W.findIn K (.ref C_Desk) "do_record" = some (some (.ref f58)))
  (i58 : PySem.W.isFn K (.ref f58) = true)
  (l58 : K.lookup f58 = some ⟨oc58, od58, .func (PySem.W.fnOf "do_record" "Desk.do_record" (defArgs s_Desk_do_record) (defBody s_Desk_do_record) (defScope s_Desk_do_record) .none kV58 dc58 pm58 an58 cd58 ct58), sl58⟩)
  (c58 : PySem.W.codeIn K cd58 "Desk.do_record" = true)
  (k58 : PySem.W.keepIn K (.ref f58) = true)
  (a59 : PySem.W.findIn K (.ref C_Desk) "do_add" = some (some (.ref f59)))
  (i59 : PySem.W.isFn K (.ref f59) = true)
  (l59 : K.lookup f59 = some ⟨oc59, od59, .func (PySem.W.fnOf "do_add" "Desk.do_add" (defArgs s_Desk_do_add) (defBody s_Desk_do_add) (defScope s_Desk_do_add) .none kV59 dc59 pm59 an59 cd59 ct59), sl59⟩)
  (c59 : PySem.W.codeIn K cd59 "Desk.do_add" = true)
  (k59 : PySem.W.keepIn K (.ref f59) = true)
  (a60 : PySem.W.findIn K (.ref C_Desk) "do_drop" = some (some (.ref f60)))
  (i60 : PySem.W.isFn K (.ref f60) = true)
  (l60 : K.lookup f60 = some ⟨oc60, od60, .func (PySem.W.fnOf "do_drop" "Desk.do_drop" (defArgs s_Desk_do_drop) (defBody s_Desk_do_drop) (defScope s_Desk_do_drop) .none kV60 dc60 pm60 an60 cd60 ct60), sl60⟩)
  (c60 : PySem.W.codeIn K cd60 "Desk.do_drop" = true)
  (k60 : PySem.W.keepIn K (.ref f60) = true)
  (a61 : PySem.W.findIn K (.ref C_Desk) "do_least" = some (some (.ref f61)))
  (i61 : PySem.W.isFn K (.ref f61) = true)
  (l61 : K.lookup f61 = some ⟨oc61, od61, .func (PySem.W.fnOf "do_least" "Desk.do_least" (defArgs s_Desk_do_least) (defBody s_Desk_do_least) (defScope s_Desk_do_least) .none kV61 dc61 pm61 an61 cd61 ct61), sl61⟩)
  (c61 : PySem.W.codeIn K cd61 "Desk.do_least" = true)
  (k61 : PySem.W.keepIn K (.ref f61) = true)
  (a62 : PySem.W.findIn K (.ref C_Desk) "do_is" = some (some (.ref f62)))
  (i62 : PySem.W.isFn K (.ref f62) = true)
  (l62 : K.lookup f62 = some ⟨oc62, od62, .func (PySem.W.fnOf "do_is" "Desk.do_is" (defArgs s_Desk_do_is) (defBody s_Desk_do_is) (defScope s_Desk_do_is) .none kV62 dc62 pm62 an62 cd62 ct62), sl62⟩)
  (c62 : PySem.W.codeIn K cd62 "Desk.do_is" = true)
  (k62 : PySem.W.keepIn K (.ref f62) = true)
  (a63 : PySem.W.findIn K (.ref C_Desk) "do_next" = some (some (.ref f63)))
  (i63 : PySem.W.isFn K (.ref f63) = true)
  (l63 : K.lookup f63 = some ⟨oc63, od63, .func (PySem.W.fnOf "do_next" "Desk.do_next" (defArgs s_Desk_do_next) (defBody s_Desk_do_next) (defScope s_Desk_do_next) .none kV63 dc63 pm63 an63 cd63 ct63), sl63⟩)
  (c63 : PySem.W.codeIn K cd63 "Desk.do_next" = true)
  (k63 : PySem.W.keepIn K (.ref f63) = true)
  (a64 : PySem.W.findIn K (.ref C_Desk) "do_loops" = some (some (.ref f64)))
  (i64 : PySem.W.isFn K (.ref f64) = true)
  (l64 : K.lookup f64 = some ⟨oc64, od64, .func (PySem.W.fnOf "do_loops" "Desk.do_loops" (defArgs s_Desk_do_loops) (defBody s_Desk_do_loops) (defScope s_Desk_do_loops) .none kV64 dc64 pm64 an64 cd64 ct64), sl64⟩)
  (c64 : PySem.W.codeIn K cd64 "Desk.do_loops" = true)
  (k64 : PySem.W.keepIn K (.ref f64) = true)
  (a65 : PySem.W.findIn K (.ref C_Desk) "do_play" = some (some (.ref f65)))
  (i65 : PySem.W.isFn K (.ref f65) = true)
  (l65 : K.lookup f65 = some ⟨oc65, od65, .func (PySem.W.fnOf "do_play" "Desk.do_play" (defArgs s_Desk_do_play) (defBody s_Desk_do_play) (defScope s_Desk_do_play) .none kV65 dc65 pm65 an65 cd65 ct65), sl65⟩)
  (c65 : PySem.W.codeIn K cd65 "Desk.do_play" = true)
  (k65 : PySem.W.keepIn K (.ref f65) = true)
  (a66 : PySem.W.findIn K (.ref C_Desk) "with_list" = some (some (.ref f66)))
  (i66 : PySem.W.isFn K (.ref f66) = true)
  (l66 : K.lookup f66 = some ⟨oc66, od66, .func (PySem.W.fnOf "with_list" "Desk.with_list" (defArgs s_Desk_with_list) (defBody s_Desk_with_list) (defScope s_Desk_with_list) .none kV66 dc66 pm66 an66 cd66 ct66), sl66⟩)
  (c66 : PySem.W.codeIn K cd66 "Desk.with_list" = true)
  (k66 : PySem.W.keepIn K (.ref f66) = true)
  (a67 : PySem.W.findIn K (.ref C_Desk) "without_list" = some (some (.ref f67)))
  (i67 : PySem.W.isFn K (.ref f67) = true)
  (l67 : K.lookup f67 = some ⟨oc67, od67, .func (PySem.W.fnOf "without_list" "Desk.without_list" (defArgs s_Desk_without_list) (defBody s_Desk_without_list) (defScope s_Desk_without_list) .none kV67 dc67 pm67 an67 cd67 ct67), sl67⟩)
  (c67 : PySem.W.codeIn K cd67 "Desk.without_list" = true)
  (k67 : PySem.W.keepIn K (.ref f67) = true)
  (a68 : PySem.W.findIn K (.ref C_Desk) "answer" = some (some (.ref f68)))
  (i68 : PySem.W.isFn K (.ref f68) = true)
  (l68 : K.lookup f68 = some ⟨oc68, od68, .func (PySem.W.fnOf "answer" "Desk.answer" (defArgs s_Desk_answer) (defBody s_Desk_answer) (defScope s_Desk_answer) .none kV68 dc68 pm68 an68 cd68 ct68), sl68⟩)
  (c68 : PySem.W.codeIn K cd68 "Desk.answer" = true)
  (k68 : PySem.W.keepIn K (.ref f68) = true)
  (a69 : PySem.W.nsIn K mainGlobals "answers" = some (some (.ref f69)))
  (l69 : K.lookup f69 = some ⟨oc69, od69, .func (PySem.W.fnOf "answers" "answers" (defArgs s_answers) (defBody s_answers) (defScope s_answers) .none kV69 dc69 pm69 an69 cd69 ct69), sl69⟩)
  (c69 : PySem.W.codeIn K cd69 "answers" = true)
  (k69 : PySem.W.keepIn K (.ref f69) = true)
  (g_DOWN : PySem.W.nsIn K mainGlobals "DOWN" = some (some (.int 0 t_DOWN)))
  (g_UP : PySem.W.nsIn K mainGlobals "UP" = some (some (.int 1 t_UP)))
  (g_TOP : PySem.W.nsIn K mainGlobals "TOP" = some (some (.int 2 t_TOP)))
  (g_WRITE : PySem.W.nsIn K mainGlobals "WRITE" = some (some (.int 3 t_WRITE)))
  (g_ADD : PySem.W.nsIn K mainGlobals "ADD" = some (some (.int 4 t_ADD)))
  (g_COPY : PySem.W.nsIn K mainGlobals "COPY" = some (some (.int 5 t_COPY)))
  (g_PASTE : PySem.W.nsIn K mainGlobals "PASTE" = some (some (.int 6 t_PASTE)))
  (g_DELETE : PySem.W.nsIn K mainGlobals "DELETE" = some (some (.int 7 t_DELETE)))
  (g_DOUBLE : PySem.W.nsIn K mainGlobals "DOUBLE" = some (some (.int 8 t_DOUBLE)))
  (g_FIND : PySem.W.nsIn K mainGlobals "FIND" = some (some (.int 9 t_FIND)))
  (g_LAST_FIELD : PySem.W.nsIn K mainGlobals "LAST_FIELD" = some (some (.int 2 t_LAST_FIELD)))
  (g_MOST : PySem.W.nsIn K mainGlobals "MOST" = some (some (.int 999 t_MOST)))
  (g_MOST_DEEDS : PySem.W.nsIn K mainGlobals "MOST_DEEDS" = some (some (.int 14 t_MOST_DEEDS)))
  (g_BAD : PySem.W.nsIn K mainGlobals "BAD" = some (some (.int (-1) t_BAD)))
  (g_DEED : PySem.W.nsIn K mainGlobals "DEED" = some (some (.int 0 t_DEED)))
  (g_LOOP : PySem.W.nsIn K mainGlobals "LOOP" = some (some (.int 1 t_LOOP)))
  (g_TO_END : PySem.W.nsIn K mainGlobals "TO_END" = some (some (.int 2 t_TO_END)))
  (g_PART : PySem.W.nsIn K mainGlobals "PART" = some (some (.int 3 t_PART)))
  (g_MOST_ROUNDS : PySem.W.nsIn K mainGlobals "MOST_ROUNDS" = some (some (.int 9 t_MOST_ROUNDS)))
  (g_MOST_PIECES : PySem.W.nsIn K mainGlobals "MOST_PIECES" = some (some (.int 16 t_MOST_PIECES)))
  (g_MOST_DEEP : PySem.W.nsIn K mainGlobals "MOST_DEEP" = some (some (.int 3 t_MOST_DEEP)))
  (g_LEAST_ROUNDS : PySem.W.nsIn K mainGlobals "LEAST_ROUNDS" = some (some (.int 2 t_LEAST_ROUNDS)))
  (g_MOST_ROWS : PySem.W.nsIn K mainGlobals "MOST_ROWS" = some (some (.int 8 t_MOST_ROWS)))
  (g_FIELDS : PySem.W.nsIn K mainGlobals "FIELDS" = some (some (.int 3 t_FIELDS)))
  (g_NO_ROW : PySem.W.nsIn K mainGlobals "NO_ROW" = some (some (.int 1 t_NO_ROW)))
  (g_AT_TOP : PySem.W.nsIn K mainGlobals "AT_TOP" = some (some (.int 2 t_AT_TOP)))
  (g_TOO_GREAT : PySem.W.nsIn K mainGlobals "TOO_GREAT" = some (some (.int 3 t_TOO_GREAT)))
  (g_FULL_tables : PySem.W.nsIn K mainGlobals "FULL_tables" = some (some (.int 4 t_FULL_tables)))
  (g_NONE_FOUND : PySem.W.nsIn K mainGlobals "NONE_FOUND" = some (some (.int 5 t_NONE_FOUND)))
  (g_NO_DEEDS : PySem.W.nsIn K mainGlobals "NO_DEEDS" = some (some (.int (-2) t_NO_DEEDS)))
  (g_NOT_PLAIN : PySem.W.nsIn K mainGlobals "NOT_PLAIN" = some (some (.int (-4) t_NOT_PLAIN)))
  (g_FULL_desk : PySem.W.nsIn K mainGlobals "FULL_desk" = some (some (.int (-6) t_FULL_desk)))
  (g_TOO_MANY : PySem.W.nsIn K mainGlobals "TOO_MANY" = some (some (.int (-7) t_TOO_MANY)))
  (g_MOST_TOLD : PySem.W.nsIn K mainGlobals "MOST_TOLD" = some (some (.int 60 t_MOST_TOLD)))
  (g_WITH_FIELD : PySem.W.nsIn K mainGlobals "WITH_FIELD" = some (some (.ref w_WITH_FIELD)))
  (o_WITH_FIELD : K.lookup w_WITH_FIELD = some ⟨.type "tuple", dd_WITH_FIELD, .seq #[.int 3 t_WITH_FIELD_0, .int 4 t_WITH_FIELD_1, .int 5 t_WITH_FIELD_2, .int 6 t_WITH_FIELD_3, .int 9 t_WITH_FIELD_4] n_WITH_FIELD, sl_WITH_FIELD⟩)
  (g_WITH_NUMBER : PySem.W.nsIn K mainGlobals "WITH_NUMBER" = some (some (.ref w_WITH_NUMBER)))
  (o_WITH_NUMBER : K.lookup w_WITH_NUMBER = some ⟨.type "tuple", dd_WITH_NUMBER, .seq #[.int 3 t_WITH_NUMBER_0, .int 4 t_WITH_NUMBER_1, .int 9 t_WITH_NUMBER_2] n_WITH_NUMBER, sl_WITH_NUMBER⟩)
  (g_WITH_LIST : PySem.W.nsIn K mainGlobals "WITH_LIST" = some (some (.ref w_WITH_LIST)))
  (o_WITH_LIST : K.lookup w_WITH_LIST = some ⟨.type "tuple", dd_WITH_LIST, .seq #[.int 0 t_WITH_LIST_0, .int 1 t_WITH_LIST_1, .int 5 t_WITH_LIST_2, .int 6 t_WITH_LIST_3, .int 9 t_WITH_LIST_4] n_WITH_LIST, sl_WITH_LIST⟩)
  (z_len : PySem.W.nsIn K mainGlobals "len" = some none)
  (z_range : PySem.W.nsIn K mainGlobals "range" = some none)
  (z_any : PySem.W.nsIn K mainGlobals "any" = some none)
  (z_all : PySem.W.nsIn K mainGlobals "all" = some none)
  (z_abs : PySem.W.nsIn K mainGlobals "abs" = some none)
  (z_enumerate : PySem.W.nsIn K mainGlobals "enumerate" = some none)
  (z_min : PySem.W.nsIn K mainGlobals "min" = some none)
  (z_sorted : PySem.W.nsIn K mainGlobals "sorted" = some none)
  (z_list : PySem.W.nsIn K mainGlobals "list" = some none)
  (z_zip : PySem.W.nsIn K mainGlobals "zip" = some none)
  (z_ValueError : PySem.W.nsIn K mainGlobals "ValueError" = some none) :
  ∃ fd : FuncData, (∀ (s : Shared) (us : List Value), us.length = (["calls"] : List Str).length → BindsTo s fd ⟨us, []⟩ ((["calls"] : List Str).zip us)) ∧ ∀ base : Heap, K.In base → base.Ns mainGlobals mg → FnOk P w K mg base CX0 30 fa fd ["calls"] (spAns K) := by
  have T : Txt K mg := txt_mk X G aR xL sa ga gg nb aRI tRI lRI cRI kR eR tR hR iR sR a_Numbers pg_Numbers hd_Numbers po_Numbers sa_Numbers mk_Numbers kp_Numbers n_Numbers_some n_Numbers_done a_Span pg_Span hd_Span po_Span sa_Span mk_Span kp_Span n_Span_recording n_Span_place n_Span_length n_Span_rounds a_Table pg_Table hd_Table po_Table sa_Table mk_Table kp_Table n_Table_rows n_Table_cursor n_Table_clip a_Desk pg_Desk hd_Desk po_Desk sa_Desk mk_Desk kp_Desk n_Desk_deeds a1 l1 c1 k1 a2 i2 l2 c2 k2 a3 i3 l3 c3 k3 a4 i4 l4 c4 k4 a5 l5 c5 k5 a6 l6 c6 k6 a7 l7 c7 k7 a8 l8 c8 k8 a9 l9 c9 k9 a10 l10 c10 k10 a11 l11 c11 k11 a12 l12 c12 k12 a13 l13 c13 k13 a14 l14 c14 k14 a15 l15 c15 k15 a16 l16 c16 k16 a17 l17 c17 k17 a18 l18 c18 k18 a19 l19 c19 k19 a20 i20 l20 c20 k20 a21 i21 l21 c21 k21 a22 i22 l22 c22 k22 a23 i23 l23 c23 k23 a24 i24 l24 c24 k24 a25 i25 l25 c25 k25 a26 i26 l26 c26 k26 a27 i27 l27 c27 k27 a28 i28 l28 c28 k28 a29 i29 l29 c29 k29 a30 i30 l30 c30 k30 a31 i31 l31 c31 k31 a32 l32 c32 k32 a33 l33 c33 k33 a34 l34 c34 k34 a35 l35 c35 k35 a36 l36 c36 k36 a37 l37 c37 k37 a38 l38 c38 k38 a39 l39 c39 k39 a40 l40 c40 k40 a41 l41 c41 k41 a42 l42 c42 k42 a43 i43 l43 c43 k43 a44 i44 l44 c44 k44 a45 i45 l45 c45 k45 a46 i46 l46 c46 k46 a47 i47 l47 c47 k47 a48 i48 l48 c48 k48 a49 i49 l49 c49 k49 a50 i50 l50 c50 k50 a51 i51 l51 c51 k51 a52 l52 c52 k52 a53 l53 c53 k53 a54 l54 c54 k54 a55 l55 c55 k55 a56 l56 c56 k56 a57 i57 l57 c57 k57 a58 i58 l58 c58 k58 a59 i59 l59 c59 k59 a60 i60 l60 c60 k60 a61 i61 l61 c61 k61 a62 i62 l62 c62 k62 a63 i63 l63 c63 k63 a64 i64 l64 c64 k64 a65 i65 l65 c65 k65 a66 i66 l66 c66 k66 a67 i67 l67 c67 k67 a68 i68 l68 c68 k68 a69 l69 c69 k69 g_DOWN g_UP g_TOP g_WRITE g_ADD g_COPY g_PASTE g_DELETE g_DOUBLE g_FIND g_LAST_FIELD g_MOST g_MOST_DEEDS g_BAD g_DEED g_LOOP g_TO_END g_PART g_MOST_ROUNDS g_MOST_PIECES g_MOST_DEEP g_LEAST_ROUNDS g_MOST_ROWS g_FIELDS g_NO_ROW g_AT_TOP g_TOO_GREAT g_FULL_tables g_NONE_FOUND g_NO_DEEDS g_NOT_PLAIN g_FULL_desk g_TOO_MANY g_MOST_TOLD g_WITH_FIELD o_WITH_FIELD g_WITH_NUMBER o_WITH_NUMBER g_WITH_LIST o_WITH_LIST z_len z_range z_any z_all z_abs z_enumerate z_min z_sorted z_list z_zip z_ValueError
  obtain rfl : fa = T.answers.f := Value.ref.inj (Option.some.inj (hfa.symm.trans T.answers.g))
  refine ⟨T.answers.fd, fun s us hl => ?_, fun base _ _ => ok_answers T⟩
  obtain ⟨oc, od, kV, doc, pm, an, cdv, ct, osl, hfd, lk, hcd⟩ := T.answers.F.ex
  rw [hfd]
  exact BindsTo.of_eq (match us, hl with | [_], _ => rfl)
end My
open PySem PySem.W PyProof.Rows
set_option maxRecDepth 100000 in
set_option maxHeartbeats 8000000 in
theorem PySem.Challenge.cw_loopsfound_s01_answers_holds : PySem.Challenge.rw_loopsfound_s01_answers.Holds := by
  w_on; k_headS; (case hw => exact ⟨[.list [.int 10]], by decide +kernel, by decide +kernel⟩)
  k_fillS
  refine L2.walk_specK (r := PySem.Challenge.rw_loopsfound_s01_answers) (k := 30) (CX := L2.CX0) (ps := ["calls"]) (sp := My.spAns) (by decide +kernel) rfl rfl ⟨rfl, by decide, by decide⟩ (fun w h Y => PySem.W.kIn_of Y) ?F ?S (fun _ _ _ _ z => z)
  case F =>
    intro w mg fa h Y KX G hmg
    refine' My.all_mk KX G hmg ?aR ?xL ?sa ?ga ?gg ?nb ?aRI ?tRI ?lRI ?cRI ?kR ?eR ?tR ?hR ?iR ?sR ?a_Numbers ?pg_Numbers ?hd_Numbers ?po_Numbers ?sa_Numbers ?mk_Numbers ?kp_Numbers ?n_Numbers_some ?n_Numbers_done ?a_Span ?pg_Span ?hd_Span ?po_Span ?sa_Span ?mk_Span ?kp_Span ?n_Span_recording ?n_Span_place ?n_Span_length ?n_Span_rounds ?a_Table ?pg_Table ?hd_Table ?po_Table ?sa_Table ?mk_Table ?kp_Table ?n_Table_rows ?n_Table_cursor ?n_Table_clip ?a_Desk ?pg_Desk ?hd_Desk ?po_Desk ?sa_Desk ?mk_Desk ?kp_Desk ?n_Desk_deeds ?a1 ?l1 ?c1 ?k1 ?a2 ?i2 ?l2 ?c2 ?k2 ?a3 ?i3 ?l3 ?c3 ?k3 ?a4 ?i4 ?l4 ?c4 ?k4 ?a5 ?l5 ?c5 ?k5 ?a6 ?l6 ?c6 ?k6 ?a7 ?l7 ?c7 ?k7 ?a8 ?l8 ?c8 ?k8 ?a9 ?l9 ?c9 ?k9 ?a10 ?l10 ?c10 ?k10 ?a11 ?l11 ?c11 ?k11 ?a12 ?l12 ?c12 ?k12 ?a13 ?l13 ?c13 ?k13 ?a14 ?l14 ?c14 ?k14 ?a15 ?l15 ?c15 ?k15 ?a16 ?l16 ?c16 ?k16 ?a17 ?l17 ?c17 ?k17 ?a18 ?l18 ?c18 ?k18 ?a19 ?l19 ?c19 ?k19 ?a20 ?i20 ?l20 ?c20 ?k20 ?a21 ?i21 ?l21 ?c21 ?k21 ?a22 ?i22 ?l22 ?c22 ?k22 ?a23 ?i23 ?l23 ?c23 ?k23 ?a24 ?i24 ?l24 ?c24 ?k24 ?a25 ?i25 ?l25 ?c25 ?k25 ?a26 ?i26 ?l26 ?c26 ?k26 ?a27 ?i27 ?l27 ?c27 ?k27 ?a28 ?i28 ?l28 ?c28 ?k28 ?a29 ?i29 ?l29 ?c29 ?k29 ?a30 ?i30 ?l30 ?c30 ?k30 ?a31 ?i31 ?l31 ?c31 ?k31 ?a32 ?l32 ?c32 ?k32 ?a33 ?l33 ?c33 ?k33 ?a34 ?l34 ?c34 ?k34 ?a35 ?l35 ?c35 ?k35 ?a36 ?l36 ?c36 ?k36 ?a37 ?l37 ?c37 ?k37 ?a38 ?l38 ?c38 ?k38 ?a39 ?l39 ?c39 ?k39 ?a40 ?l40 ?c40 ?k40 ?a41 ?l41 ?c41 ?k41 ?a42 ?l42 ?c42 ?k42 ?a43 ?i43 ?l43 ?c43 ?k43 ?a44 ?i44 ?l44 ?c44 ?k44 ?a45 ?i45 ?l45 ?c45 ?k45 ?a46 ?i46 ?l46 ?c46 ?k46 ?a47 ?i47 ?l47 ?c47 ?k47 ?a48 ?i48 ?l48 ?c48 ?k48 ?a49 ?i49 ?l49 ?c49 ?k49 ?a50 ?i50 ?l50 ?c50 ?k50 ?a51 ?i51 ?l51 ?c51 ?k51 ?a52 ?l52 ?c52 ?k52 ?a53 ?l53 ?c53 ?k53 ?a54 ?l54 ?c54 ?k54 ?a55 ?l55 ?c55 ?k55 ?a56 ?l56 ?c56 ?k56 ?a57 ?i57 ?l57 ?c57 ?k57 ?a58 ?i58 ?l58 ?c58 ?k58 ?a59 ?i59 ?l59 ?c59 ?k59 ?a60 ?i60 ?l60 ?c60 ?k60 ?a61 ?i61 ?l61 ?c61 ?k61 ?a62 ?i62 ?l62 ?c62 ?k62 ?a63 ?i63 ?l63 ?c63 ?k63 ?a64 ?i64 ?l64 ?c64 ?k64 ?a65 ?i65 ?l65 ?c65 ?k65 ?a66 ?i66 ?l66 ?c66 ?k66 ?a67 ?i67 ?l67 ?c67 ?k67 ?a68 ?i68 ?l68 ?c68 ?k68 ?a69 ?l69 ?c69 ?k69 ?g_DOWN ?g_UP ?g_TOP ?g_WRITE ?g_ADD ?g_COPY ?g_PASTE ?g_DELETE ?g_DOUBLE ?g_FIND ?g_LAST_FIELD ?g_MOST ?g_MOST_DEEDS ?g_BAD ?g_DEED ?g_LOOP ?g_TO_END ?g_PART ?g_MOST_ROUNDS ?g_MOST_PIECES ?g_MOST_DEEP ?g_LEAST_ROUNDS ?g_MOST_ROWS ?g_FIELDS ?g_NO_ROW ?g_AT_TOP ?g_TOO_GREAT ?g_FULL_tables ?g_NONE_FOUND ?g_NO_DEEDS ?g_NOT_PLAIN ?g_FULL_desk ?g_TOO_MANY ?g_MOST_TOLD ?g_WITH_FIELD ?o_WITH_FIELD ?g_WITH_NUMBER ?o_WITH_NUMBER ?g_WITH_LIST ?o_WITH_LIST ?z_len ?z_range ?z_any ?z_all ?z_abs ?z_enumerate ?z_min ?z_sorted ?z_list ?z_zip ?z_ValueError
    (case aR => k_is)
    (case xL => k_is)
    (case sa => k_is)
    (case ga => k_is)
    (case gg => k_is)
    (case nb => k_is)
    (case aRI => k_is)
    (case tRI => k_is)
    (case lRI => k_is)
    (case cRI => k_is)
    (case kR => k_is)
    (case eR => k_is)
    (case tR => k_is)
    (case hR => k_is)
    (case iR => k_is)
    (case sR => first | rfl | k_is)
    (case a_Numbers => k_is)
    (case pg_Numbers => k_is)
    (case hd_Numbers => k_is)
    (case po_Numbers => k_is)
    (case sa_Numbers => k_is)
    (case mk_Numbers => k_is)
    (case kp_Numbers => k_is)
    (case n_Numbers_some => k_is)
    (case n_Numbers_done => k_is)
    (case a_Span => k_is)
    (case pg_Span => k_is)
    (case hd_Span => k_is)
    (case po_Span => k_is)
    (case sa_Span => k_is)
    (case mk_Span => k_is)
    (case kp_Span => k_is)
    (case n_Span_recording => k_is)
    (case n_Span_place => k_is)
    (case n_Span_length => k_is)
    (case n_Span_rounds => k_is)
    (case a_Table => k_is)
    (case pg_Table => k_is)
    (case hd_Table => k_is)
    (case po_Table => k_is)
    (case sa_Table => k_is)
    (case mk_Table => k_is)
    (case kp_Table => k_is)
    (case n_Table_rows => k_is)
    (case n_Table_cursor => k_is)
    (case n_Table_clip => k_is)
    (case a_Desk => k_is)
    (case pg_Desk => k_is)
    (case hd_Desk => k_is)
    (case po_Desk => k_is)
    (case sa_Desk => k_is)
    (case mk_Desk => k_is)
    (case kp_Desk => k_is)
    (case n_Desk_deeds => k_is)
    (case a1 => k_is)
    (case l1 => k_is)
    (case c1 => k_is)
    (case k1 => k_is)
    (case a2 => k_is)
    (case i2 => k_is)
    (case l2 => k_is)
    (case c2 => k_is)
    (case k2 => k_is)
    (case a3 => k_is)
    (case i3 => k_is)
    (case l3 => k_is)
    (case c3 => k_is)
    (case k3 => k_is)
    (case a4 => k_is)
    (case i4 => k_is)
    (case l4 => k_is)
    (case c4 => k_is)
    (case k4 => k_is)
    (case a5 => k_is)
    (case l5 => k_is)
    (case c5 => k_is)
    (case k5 => k_is)
    (case a6 => k_is)
    (case l6 => k_is)
    (case c6 => k_is)
    (case k6 => k_is)
    (case a7 => k_is)
    (case l7 => k_is)
    (case c7 => k_is)
    (case k7 => k_is)
    (case a8 => k_is)
    (case l8 => k_is)
    (case c8 => k_is)
    (case k8 => k_is)
    (case a9 => k_is)
    (case l9 => k_is)
    (case c9 => k_is)
    (case k9 => k_is)
    (case a10 => k_is)
    (case l10 => k_is)
    (case c10 => k_is)
    (case k10 => k_is)
    (case a11 => k_is)
    (case l11 => k_is)
    (case c11 => k_is)
    (case k11 => k_is)
    (case a12 => k_is)
    (case l12 => k_is)
    (case c12 => k_is)
    (case k12 => k_is)
    (case a13 => k_is)
    (case l13 => k_is)
    (case c13 => k_is)
    (case k13 => k_is)
    (case a14 => k_is)
    (case l14 => k_is)
    (case c14 => k_is)
    (case k14 => k_is)
    (case a15 => k_is)
    (case l15 => k_is)
    (case c15 => k_is)
    (case k15 => k_is)
    (case a16 => k_is)
    (case l16 => k_is)
    (case c16 => k_is)
    (case k16 => k_is)
    (case a17 => k_is)
    (case l17 => k_is)
    (case c17 => k_is)
    (case k17 => k_is)
    (case a18 => k_is)
    (case l18 => k_is)
    (case c18 => k_is)
    (case k18 => k_is)
    (case a19 => k_is)
    (case l19 => k_is)
    (case c19 => k_is)
    (case k19 => k_is)
    (case a20 => k_is)
    (case i20 => k_is)
    (case l20 => k_is)
    (case c20 => k_is)
    (case k20 => k_is)
    (case a21 => k_is)
    (case i21 => k_is)
    (case l21 => k_is)
    (case c21 => k_is)
    (case k21 => k_is)
    (case a22 => k_is)
    (case i22 => k_is)
    (case l22 => k_is)
    (case c22 => k_is)
    (case k22 => k_is)
    (case a23 => k_is)
    (case i23 => k_is)
    (case l23 => k_is)
    (case c23 => k_is)
    (case k23 => k_is)
    (case a24 => k_is)
    (case i24 => k_is)
    (case l24 => k_is)
    (case c24 => k_is)
    (case k24 => k_is)
    (case a25 => k_is)
    (case i25 => k_is)
    (case l25 => k_is)
    (case c25 => k_is)
    (case k25 => k_is)
    (case a26 => k_is)
    (case i26 => k_is)
    (case l26 => k_is)
    (case c26 => k_is)
    (case k26 => k_is)
    (case a27 => k_is)
    (case i27 => k_is)
    (case l27 => k_is)
    (case c27 => k_is)
    (case k27 => k_is)
    (case a28 => k_is)
    (case i28 => k_is)
    (case l28 => k_is)
    (case c28 => k_is)
    (case k28 => k_is)
    (case a29 => k_is)
    (case i29 => k_is)
    (case l29 => k_is)
    (case c29 => k_is)
    (case k29 => k_is)
    (case a30 => k_is)
    (case i30 => k_is)
    (case l30 => k_is)
    (case c30 => k_is)
    (case k30 => k_is)
    (case a31 => k_is)
    (case i31 => k_is)
    (case l31 => k_is)
    (case c31 => k_is)
    (case k31 => k_is)
    (case a32 => k_is)
    (case l32 => k_is)
    (case c32 => k_is)
    (case k32 => k_is)
    (case a33 => k_is)
    (case l33 => k_is)
    (case c33 => k_is)
    (case k33 => k_is)
    (case a34 => k_is)
    (case l34 => k_is)
    (case c34 => k_is)
    (case k34 => k_is)
    (case a35 => k_is)
    (case l35 => k_is)
    (case c35 => k_is)
    (case k35 => k_is)
    (case a36 => k_is)
    (case l36 => k_is)
    (case c36 => k_is)
    (case k36 => k_is)
    (case a37 => k_is)
    (case l37 => k_is)
    (case c37 => k_is)
    (case k37 => k_is)
    (case a38 => k_is)
    (case l38 => k_is)
    (case c38 => k_is)
    (case k38 => k_is)
    (case a39 => k_is)
    (case l39 => k_is)
    (case c39 => k_is)
    (case k39 => k_is)
    (case a40 => k_is)
    (case l40 => k_is)
    (case c40 => k_is)
    (case k40 => k_is)
    (case a41 => k_is)
    (case l41 => k_is)
    (case c41 => k_is)
    (case k41 => k_is)
    (case a42 => k_is)
    (case l42 => k_is)
    (case c42 => k_is)
    (case k42 => k_is)
    (case a43 => k_is)
    (case i43 => k_is)
    (case l43 => k_is)
    (case c43 => k_is)
    (case k43 => k_is)
    (case a44 => k_is)
    (case i44 => k_is)
    (case l44 => k_is)
    (case c44 => k_is)
    (case k44 => k_is)
    (case a45 => k_is)
    (case i45 => k_is)
    (case l45 => k_is)
    (case c45 => k_is)
    (case k45 => k_is)
    (case a46 => k_is)
    (case i46 => k_is)
    (case l46 => k_is)
    (case c46 => k_is)
    (case k46 => k_is)
    (case a47 => k_is)
    (case i47 => k_is)
    (case l47 => k_is)
    (case c47 => k_is)
    (case k47 => k_is)
    (case a48 => k_is)
    (case i48 => k_is)
    (case l48 => k_is)
    (case c48 => k_is)
    (case k48 => k_is)
    (case a49 => k_is)
    (case i49 => k_is)
    (case l49 => k_is)
    (case c49 => k_is)
    (case k49 => k_is)
    (case a50 => k_is)
    (case i50 => k_is)
    (case l50 => k_is)
    (case c50 => k_is)
    (case k50 => k_is)
    (case a51 => k_is)
    (case i51 => k_is)
    (case l51 => k_is)
    (case c51 => k_is)
    (case k51 => k_is)
    (case a52 => k_is)
    (case l52 => k_is)
    (case c52 => k_is)
    (case k52 => k_is)
    (case a53 => k_is)
    (case l53 => k_is)
    (case c53 => k_is)
    (case k53 => k_is)
    (case a54 => k_is)
    (case l54 => k_is)
    (case c54 => k_is)
    (case k54 => k_is)
    (case a55 => k_is)
    (case l55 => k_is)
    (case c55 => k_is)
    (case k55 => k_is)
    (case a56 => k_is)
    (case l56 => k_is)
    (case c56 => k_is)
    (case k56 => k_is)
    (case a57 => k_is)
    (case i57 => k_is)
    (case l57 => k_is)
    (case c57 => k_is)
    (case k57 => k_is)
    (case a58 => k_is)
    (case i58 => k_is)
    (case l58 => k_is)
    (case c58 => k_is)
    (case k58 => k_is)
    (case a59 => k_is)
    (case i59 => k_is)
    (case l59 => k_is)
    (case c59 => k_is)
    (case k59 => k_is)
    (case a60 => k_is)
    (case i60 => k_is)
    (case l60 => k_is)
    (case c60 => k_is)
    (case k60 => k_is)
    (case a61 => k_is)
    (case i61 => k_is)
    (case l61 => k_is)
    (case c61 => k_is)
    (case k61 => k_is)
    (case a62 => k_is)
    (case i62 => k_is)
    (case l62 => k_is)
    (case c62 => k_is)
    (case k62 => k_is)
    (case a63 => k_is)
    (case i63 => k_is)
    (case l63 => k_is)
    (case c63 => k_is)
    (case k63 => k_is)
    (case a64 => k_is)
    (case i64 => k_is)
    (case l64 => k_is)
    (case c64 => k_is)
    (case k64 => k_is)
    (case a65 => k_is)
    (case i65 => k_is)
    (case l65 => k_is)
    (case c65 => k_is)
    (case k65 => k_is)
    (case a66 => k_is)
    (case i66 => k_is)
    (case l66 => k_is)
    (case c66 => k_is)
    (case k66 => k_is)
    (case a67 => k_is)
    (case i67 => k_is)
    (case l67 => k_is)
    (case c67 => k_is)
    (case k67 => k_is)
    (case a68 => k_is)
    (case i68 => k_is)
    (case l68 => k_is)
    (case c68 => k_is)
    (case k68 => k_is)
    (case a69 => k_is)
    (case l69 => k_is)
    (case c69 => k_is)
    (case k69 => k_is)
    (case g_DOWN => k_is)
    (case g_UP => k_is)
    (case g_TOP => k_is)
    (case g_WRITE => k_is)
    (case g_ADD => k_is)
    (case g_COPY => k_is)
    (case g_PASTE => k_is)
    (case g_DELETE => k_is)
    (case g_DOUBLE => k_is)
    (case g_FIND => k_is)
    (case g_LAST_FIELD => k_is)
    (case g_MOST => k_is)
    (case g_MOST_DEEDS => k_is)
    (case g_BAD => k_is)
    (case g_DEED => k_is)
    (case g_LOOP => k_is)
    (case g_TO_END => k_is)
    (case g_PART => k_is)
    (case g_MOST_ROUNDS => k_is)
    (case g_MOST_PIECES => k_is)
    (case g_MOST_DEEP => k_is)
    (case g_LEAST_ROUNDS => k_is)
    (case g_MOST_ROWS => k_is)
    (case g_FIELDS => k_is)
    (case g_NO_ROW => k_is)
    (case g_AT_TOP => k_is)
    (case g_TOO_GREAT => k_is)
    (case g_FULL_tables => k_is)
    (case g_NONE_FOUND => k_is)
    (case g_NO_DEEDS => k_is)
    (case g_NOT_PLAIN => k_is)
    (case g_FULL_desk => k_is)
    (case g_TOO_MANY => k_is)
    (case g_MOST_TOLD => k_is)
    (case g_WITH_FIELD => k_is)
    (case o_WITH_FIELD => k_is)
    (case g_WITH_NUMBER => k_is)
    (case o_WITH_NUMBER => k_is)
    (case g_WITH_LIST => k_is)
    (case o_WITH_LIST => k_is)
    (case z_len => k_is)
    (case z_range => k_is)
    (case z_any => k_is)
    (case z_all => k_is)
    (case z_abs => k_is)
    (case z_enumerate => k_is)
    (case z_min => k_is)
    (case z_sorted => k_is)
    (case z_list => k_is)
    (case z_zip => k_is)
    (case z_ValueError => k_is)
  case S =>
    intro K H xs a hO hwi hask hx
    cases hx with
    | cons h1 h2 =>
      cases h2
      cases h1 with
      | lst hs ha =>
        have e := L2.ints_dw a.1 _ ha
        subst e
        have q : ((Codec.inLen 0 5000 a.1 && a.1.all (Codec.inInt (-1000000000000000000) 1000000000000000000)) && true) = true := hwi
        rw [Bool.and_eq_true, Bool.and_eq_true] at q
        exact ⟨_, a.1, rfl, hs, (Codec.inNat_iff.mp q.1.1).2, hask, fun H' p hp => .lst (L2.SqL.of hp) (L2.dw_ints _)⟩
