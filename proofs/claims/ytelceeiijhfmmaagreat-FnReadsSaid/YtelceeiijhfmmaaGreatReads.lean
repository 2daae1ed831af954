import Derived.Test.YtelceeiijhfmmaaGreatReads4
import Derived.Test.YtelceeiijhfmmaaGreatRows
import Derived.ProofKit
import Derived.Carry
/- For every input the law FnReads of the given program returns true and leaves its argument as it was. -/
set_option linter.unusedVariables false
set_option linter.unusedSimpArgs false
namespace Go.Proofs.Fw.R1
open Go.Proofs.Fw
@[simp] theorem age_eta (a : Age) : (⟨a.id, a.from_⟩ : Age) = a := rfl
@[simp] theorem cell_eta (c : Cell) : (⟨c.gen, c.used, c.n⟩ : Cell) = c := rfl
@[simp] theorem vol_eta (v : Vol) : (⟨v.name, v.age, v.size, v.fixed⟩ : Vol) = v := rfl
def kidsOf (l : List Age) (i : Int) : List Int := if i = 0 then [] else (l.filter fun a => decide (a.from_ = i)).map Age.id
theorem kidsOf_length (l : List Age) (i : Int) : (kidsOf l i).length ≤ l.length := by
  unfold kidsOf
  split
  · simp
  · rw [List.length_map]; exact List.length_filter_le _ _
section
variable {K : Nat}
theorem impl_KidsOf_eq (l : List Age) (i : Int) (h : l.length ≤ 1073741824) (hK : 2147483648 ≤ K) : impl_KidsOf K l i = some (kidsOf l i, ()) := by
  unfold impl_KidsOf kidsOf
  by_cases h0 : i = 0
  · rw [decide_eq_true h0, br_true, if_pos h0]
  rw [decide_eq_false h0, br_false, if_neg h0]
  refine (loop_ix (fun j (a : List Int) => (a, l, i, (j : Int), (l.length : Int), ())) l.length (fun j a => a.length ≤ j) (fun j a => some (a ++ ((l.drop j).filter fun a => decide (a.from_ = i)).map Age.id, ())) ?_ ?_ (Nat.zero_le _) (by omega) (j0 := 0) (a0 := []) (by simp)).trans rfl
  · intro rec j a hj hi hrec
    simp only [Int.ofNat_lt, hj, decide_true, decide_false, br_true, br_false, br_not, bnd_some', joinK_eq, inK_nat hj, idxK_get hj, wr_succ (show j < 9223372036854775807 by omega), key_eta]
    rw [drop_cons hj, List.filter_cons]
    cases decide (l[j].from_ = i)
    · simp only [br_false, Bool.false_eq_true, if_false]; exact hrec _ (by omega)
    · simp only [br_true, if_true]
      rw [appK_ok (by simp; omega), hrec _ (by simp; omega)]
      simp
  · intro rec a hi
    simp only [Int.ofNat_lt, Nat.lt_irrefl, decide_true, decide_false, br_true, br_false, br_not, bnd_some', joinK_eq, List.drop_length, key_eta]
    simp
theorem spec_KidsOf_eq (l : List Age) (i : Int) (h : l.length ≤ 1073741824) (hK : 2147483648 ≤ K) : spec_KidsOf K l i = some (kidsOf l i, ()) := by
  unfold spec_KidsOf kidsOf
  refine (loop_ix (fun j (a : List Int) => (a, i, l, (j : Int), ())) l.length (fun j a => a.length ≤ j) (fun j a => some (a ++ (if i = 0 then [] else ((l.drop j).filter fun a => decide (a.from_ = i)).map Age.id), ())) ?_ ?_ (Nat.zero_le _) (by omega) (j0 := 0) (a0 := []) (by simp)).trans rfl
  · intro rec j a hj hi hrec
    simp only [Int.ofNat_lt, hj, decide_true, decide_false, br_true, br_false, br_not, bnd_some', joinK_eq, inK_nat hj, idxK_get hj, wr_succ (show j < 9223372036854775807 by omega), key_eta]
    rw [drop_cons hj, List.filter_cons]
    by_cases h0 : i = 0
    · have hr := hrec a (by omega)
      simp only [h0, if_true] at hr ⊢
      rw [hr]
      cases decide (l[j].from_ = 0) <;> rfl
    · rw [decide_eq_true (show i ≠ 0 from h0), br_true, if_neg h0]
      cases decide (l[j].from_ = i)
      · simp only [br_false, Bool.false_eq_true, if_false]; rw [hrec _ (by omega), if_neg h0]
      · simp only [br_true, if_true]
        rw [appK_ok (by simp; omega), hrec _ (by simp; omega), if_neg h0]
        simp
  · intro rec a hi
    simp only [Int.ofNat_lt, Nat.lt_irrefl, decide_true, decide_false, br_true, br_false, br_not, bnd_some', joinK_eq, List.drop_length, key_eta]
    simp
def insAge (i f : Int) : Bool → List Age → List Age
  | put, [] => if put then [] else [⟨i, f⟩]
  | put, x :: r => (if !put && decide (x.id > i) then [⟨i, f⟩] else []) ++ (x :: insAge i f (put || decide (x.id > i)) r)
def newAge (l : List Age) (i f : Int) : List Age × Bool :=
  if (ageAt l i).isSome then (l, false) else if agesOk (insAge i f false l) then (insAge i f false l, true) else (l, false)
theorem insAge_length (i f : Int) : ∀ (l : List Age) (put : Bool), (insAge i f put l).length ≤ l.length + (if put then 0 else 1)
  | [], put => by cases put <;> simp [insAge]
  | x :: r, put => by
    have h1 := insAge_length i f r (put || decide (x.id > i))
    simp only [insAge, List.length_append, List.length_cons]
    cases put <;> cases hd : decide (x.id > i) <;> simp [hd] at h1 ⊢ <;> omega
theorem newAge_length (l : List Age) (i f : Int) : (newAge l i f).1.length ≤ l.length + 1 := by
  have := insAge_length i f l false
  simp only [Bool.false_eq_true, if_false] at this
  unfold newAge
  split
  · simp
  · split
    · exact this
    · simp
theorem spec_NewAge_eq (l : List Age) (i f : Int) (h : l.length ≤ 1073741823) (hK : 2147483648 ≤ K) : spec_NewAge K l i f = some ((newAge l i f).1, (newAge l i f).2, ()) := by
  unfold spec_NewAge
  rw [spec_AgeAt_eq l i (by omega) hK, bnd_some']
  simp only
  rw [pairRes_ge]
  refine (loop_ix (fun j (a : List Age × Bool) => (a.1, l, i, f, a.2, (j : Int), ())) l.length (fun j a => a.1 ++ insAge i f a.2 (l.drop j) = insAge i f (ageAt l i).isSome l ∧ a.1.length + (if a.2 then 0 else 1) ≤ j + 1) (fun _ _ => some ((newAge l i f).1, (newAge l i f).2, ())) ?_ ?_ (Nat.zero_le _) (by omega) (j0 := 0) (a0 := ([], (ageAt l i).isSome)) ⟨rfl, by simp; split <;> omega⟩).trans rfl
  · rintro rec j ⟨out, put⟩ hj ⟨hi, hl⟩ hrec
    simp only at hi hl hrec ⊢
    rw [drop_cons hj] at hi
    simp only [insAge] at hi
    simp only [Int.ofNat_lt, hj, decide_true, decide_false, br_true, br_false, br_not, bnd_some', joinK_eq, inK_nat hj, idxK_get hj, wr_succ (show j < 9223372036854775807 by omega), key_eta, age_eta]
    cases put
    · simp only [Bool.not_false, Bool.true_and, Bool.false_or, br_true, br_false, Bool.false_eq_true, if_false] at hi hl ⊢
      cases hd : decide (l[j].id > i)
      · rw [hd] at hi
        simp only [Bool.false_eq_true, if_false, List.nil_append] at hi
        rw [br_false, appK_ok (by simp; omega), hrec (_, _) ⟨by rw [← hi]; simp, by simp; omega⟩]
      · rw [hd] at hi
        simp only [if_true] at hi
        rw [br_true, appK_ok (by simp; omega), appK_ok (by simp; omega), hrec (_, _) ⟨by rw [← hi]; simp, by simp; omega⟩]
    · simp only [Bool.not_true, Bool.false_and, Bool.true_or, br_true, br_false, Bool.false_eq_true, if_false, if_true, List.nil_append] at hi hl ⊢
      rw [appK_ok (by simp; omega), hrec (_, _) ⟨by rw [← hi]; simp, by simp; omega⟩]
  · rintro rec ⟨out, put⟩ ⟨hi, hl⟩
    simp only at hi hl ⊢
    rw [List.drop_length] at hi
    simp only [Int.ofNat_lt, Nat.lt_irrefl, decide_true, decide_false, br_true, br_false, br_not, bnd_some', joinK_eq, List.drop_length, key_eta]
    have fin : ∀ (o : List Age), o = insAge i f (ageAt l i).isSome l → o.length ≤ 1073741824 → (bnd (spec_AgeAt K l i) fun y11 => br (decide (y11.1 ≥ (0 : Int))) (appK ([] : List Age) l fun z12 => some (z12, false, ())) (bnd (spec_AgesOk K o) fun y13 => br y13.1 (some (o, true, ())) (appK ([] : List Age) l fun z14 => some (z14, false, ()))) : Option (List Age × Bool × Unit)) = some ((newAge l i f).1, (newAge l i f).2, ()) := by
      intro o ho hlen
      rw [spec_AgeAt_eq l i (by omega) hK, bnd_some']
      simp only
      rw [pairRes_ge, appK_ok (by simp; omega), spec_AgesOk_eq o hlen hK, bnd_some']
      unfold newAge
      simp only [br_not, List.nil_append]
      cases hs : (ageAt l i).isSome
      · rw [hs] at ho
        rw [br_false, ← ho]
        cases agesOk o <;> rfl
      · rfl
    cases put
    · simp only [insAge, Bool.false_eq_true, if_false] at hi hl
      rw [br_false, appK_ok (by simp; omega)]
      exact fin _ hi (by simp; omega)
    · simp only [insAge, if_true, List.append_nil] at hi hl
      rw [br_true]
      exact fin _ hi (by omega)
def cutR (i g : Int) (p : Nat) : Nat → List Age → List Age
  | _, [] => []
  | j, x :: r => (if j ≠ p then [⟨x.id, if x.from_ = i then g else x.from_⟩] else []) ++ cutR i g p (j + 1) r
def cutAge (l : List Age) (i : Int) : List Age × Bool := match ageAt l i with
  | none => (l, false)
  | some p => if agesOk l then (cutR i (l.getD p ⟨0, 0⟩).from_ p 0 l, true) else (l, false)
theorem cutR_length (i g : Int) (p : Nat) : ∀ (l : List Age) (j : Nat), (cutR i g p j l).length ≤ l.length
  | [], _ => by simp [cutR]
  | x :: r, j => by
    have := cutR_length i g p r (j + 1)
    simp only [cutR, List.length_append, List.length_cons]
    split <;> simp <;> omega
theorem cutAge_length (l : List Age) (i : Int) : (cutAge l i).1.length ≤ l.length := by
  unfold cutAge
  split
  · simp
  · split
    · exact cutR_length _ _ _ _ _
    · simp
theorem spec_CutAge_eq (l : List Age) (i : Int) (h : l.length ≤ 1073741824) (hK : 2147483648 ≤ K) : spec_CutAge K l i = some ((cutAge l i).1, (cutAge l i).2, ()) := by
  unfold spec_CutAge cutAge
  rw [spec_AgeAt_eq l i (by omega) hK, bnd_some']
  simp only
  rw [pairRes_neg, appK_ok (by simp; omega), spec_AgesOk_eq l h hK, bnd_some', br_not, List.nil_append]
  cases ha : ageAt l i with
  | none => rfl
  | some p =>
    simp only [Option.isNone_some, br_false]
    cases agesOk l
    · rfl
    obtain ⟨hp, hid⟩ := ageAt_get ha
    simp only [br_true, if_true, pairRes]
    rw [getD_get hp]
    refine (loop_ix (fun j (a : List Age) => (a, i, l, (p : Int), (j : Int), ())) l.length (fun j a => a.length ≤ j) (fun j a => some (a ++ cutR i l[p].from_ p j (l.drop j), true, ())) ?_ ?_ (Nat.zero_le _) (by omega) (j0 := 0) (a0 := []) (by simp)).trans rfl
    · intro rec j a hj hi hrec
      simp only [Int.ofNat_lt, hj, decide_true, decide_false, br_true, br_false, br_not, bnd_some', joinK_eq, inK_nat hj, idxK_get hj, wr_succ (show j < 9223372036854775807 by omega), key_eta]
      rw [drop_cons hj, inK_nat hp, idxK_get hp]
      simp only [cutR]
      have e3 : decide ((j : Int) ≠ (p : Int)) = decide (j ≠ p) := decide_eq_decide.2 (by omega)
      rw [e3]
      by_cases hjp : j = p
      · rw [decide_eq_false (show ¬ j ≠ p by simp [hjp]), br_false, br_false, if_neg (show ¬ j ≠ p by simp [hjp]), hrec a (by omega)]
        cases decide (l[j].from_ = i) <;> rfl
      · rw [decide_eq_true (show j ≠ p from hjp), br_true, br_true, if_pos (show j ≠ p from hjp), appK_ok (by simp; omega), appK_ok (by simp; omega), hrec _ (by simp; omega), hrec _ (by simp; omega)]
        by_cases hf : l[j].from_ = i
        · rw [decide_eq_true hf, br_true, if_pos hf]; simp
        · rw [decide_eq_false hf, br_false, if_neg hf]; simp
    · intro rec a hi
      simp only [Int.ofNat_lt, Nat.lt_irrefl, decide_true, decide_false, br_true, br_false, br_not, bnd_some', joinK_eq, List.drop_length, key_eta]
      simp [cutR]
def isWord (n : Int) : Bool := inR n 0 65535
theorem impl_isWord_eq (n : Int) : impl_isWord K n = some (isWord n, ()) := by
  unfold impl_isWord isWord
  rw [impl_within_eq]; rfl
theorem spec_l1Word_eq (n : Int) : spec_l1Word K n = some (isWord n, ()) := by
  unfold spec_l1Word isWord
  rw [spec_l1In_eq]; rfl
def cellOk (c : Cell) : Bool := inR c.gen 0 999 && (isWord c.n && (decide (c.n = 0) || c.used))
def cellsOk (l : List Cell) : Bool := l.all cellOk && decide (l.length = 24)
theorem dec_eqN (n m : Nat) : decide ((n : Int) = (m : Int)) = decide (n = m) := decide_eq_decide.2 (by omega)
theorem impl_CellsOk_eq (l : List Cell) (h : l.length ≤ 1073741824) (hK : 2147483648 ≤ K) : impl_CellsOk K l = some (cellsOk l, ()) := by
  unfold impl_CellsOk cellsOk
  refine (loop_ix (fun j (_ : Unit) => (l, l, (j : Int), (l.length : Int), ())) l.length (fun _ _ => True) (fun j _ => some ((l.drop j).all cellOk && decide (l.length = 24), ())) ?_ ?_ (Nat.zero_le _) (by omega) (j0 := 0) (a0 := ()) trivial).trans rfl
  · intro rec j _ hj _ hrec
    have hr := hrec () trivial
    simp only [Int.ofNat_lt, hj, decide_true, decide_false, br_true, br_false, br_not, bnd_some', joinK_eq, inK_nat hj, idxK_get hj, wr_succ (show j < 9223372036854775807 by omega), key_eta, impl_within_eq, impl_isWord_eq, hr]
    rw [drop_cons hj, List.all_cons]
    unfold cellOk
    cases inR l[j].gen 0 999
    · rfl
    · cases isWord l[j].n
      · rfl
      · by_cases h0 : l[j].n = 0
        · simp [h0]
        · rw [decide_eq_true (show l[j].n ≠ 0 from h0), decide_eq_false h0]
          cases l[j].used <;> rfl
  · intro rec _ _
    simp only [Int.ofNat_lt, Nat.lt_irrefl, decide_true, decide_false, br_true, br_false, br_not, bnd_some', joinK_eq, List.drop_length, key_eta, List.all_nil, Bool.true_and]
    have e := dec_eqN l.length 24
    rw [← e]; rfl
theorem spec_CellsOk_eq (l : List Cell) (h : l.length ≤ 1073741824) (hK : 2147483648 ≤ K) : spec_CellsOk K l = some (cellsOk l, ()) := by
  unfold spec_CellsOk cellsOk
  refine (loop_ix (fun j (_ : Unit) => (l, (j : Int), ())) l.length (fun _ _ => True) (fun j _ => some ((l.drop j).all cellOk && decide (l.length = 24), ())) ?_ ?_ (Nat.zero_le _) (by omega) (j0 := 0) (a0 := ()) trivial).trans rfl
  · intro rec j _ hj _ hrec
    have hr := hrec () trivial
    simp only [Int.ofNat_lt, hj, decide_true, decide_false, br_true, br_false, br_not, bnd_some', joinK_eq, inK_nat hj, idxK_get hj, wr_succ (show j < 9223372036854775807 by omega), key_eta, spec_l1In_eq, spec_l1Word_eq, hr]
    rw [drop_cons hj, List.all_cons]
    unfold cellOk
    cases inR l[j].gen 0 999
    · rfl
    · cases isWord l[j].n
      · rfl
      · by_cases h0 : l[j].n = 0
        · cases l[j].used <;> simp [h0]
        · rw [decide_eq_true (show l[j].n ≠ 0 from h0), decide_eq_false h0]
          cases l[j].used <;> rfl
  · intro rec _ _
    simp only [Int.ofNat_lt, Nat.lt_irrefl, decide_true, decide_false, br_true, br_false, br_not, bnd_some', joinK_eq, List.drop_length, key_eta, List.all_nil, Bool.true_and]
    have e := dec_eqN l.length 24
    rw [← e]; rfl
def cellAt (l : List Cell) (c g : Int) : Option Int := if 0 ≤ c then match l[c.toNat]? with
  | some x => if x.used && decide (x.gen = g) then some x.n else none
  | none => none else none
def intRes : Option Int → Int × Bool × Unit
  | some n => (n, true, ())
  | none => (0, false, ())
theorem impl_CellAt_eq (l : List Cell) (c g : Int) (h : l.length ≤ 1073741824) : impl_CellAt K l c g = some (intRes (cellAt l c g)) := by
  unfold impl_CellAt cellAt
  rw [impl_within_eq, bnd_some', inR_idx h, br_not]
  by_cases hc : 0 ≤ c ∧ c.toNat < l.length
  · obtain ⟨j, rfl⟩ := Int.eq_ofNat_of_zero_le hc.1
    have hj : j < l.length := by have := hc.2; omega
    rw [decide_eq_true hc, br_true, inK_nat hj, idxK_get hj, br_not, if_pos hc.1, Int.toNat_natCast, List.getElem?_eq_getElem hj, inK_nat hj, idxK_get hj, inK_nat hj, idxK_get hj]
    simp only
    cases l[j].used
    · rfl
    · by_cases hg : l[j].gen = g <;> simp [hg, intRes]
  · rw [decide_eq_false hc, br_false]
    split
    · rename_i h0
      rw [List.getElem?_eq_none (by omega)]; rfl
    · rfl
theorem spec_CellAt_eq (l : List Cell) (c g : Int) (h : l.length ≤ 1073741824) : spec_CellAt K l c g = some (intRes (cellAt l c g)) := by
  unfold spec_CellAt cellAt
  rw [spec_l1In_eq, bnd_some', inR_idx h, br_not]
  by_cases hc : 0 ≤ c ∧ c.toNat < l.length
  · obtain ⟨j, rfl⟩ := Int.eq_ofNat_of_zero_le hc.1
    have hj : j < l.length := by have := hc.2; omega
    rw [decide_eq_true hc, br_true, inK_nat hj, idxK_get hj, br_not, if_pos hc.1, Int.toNat_natCast, List.getElem?_eq_getElem hj, inK_nat hj, idxK_get hj, inK_nat hj, idxK_get hj]
    simp only
    cases l[j].used
    · rfl
    · by_cases hg : l[j].gen = g <;> simp [hg, intRes]
  · rw [decide_eq_false hc, br_false]
    split
    · rename_i h0
      rw [List.getElem?_eq_none (by omega)]; rfl
    · rfl
def usedCells (l : List Cell) : Nat := (l.filter Cell.used).length
theorem impl_UsedCells_eq (l : List Cell) (h : l.length ≤ 1073741824) (hK : 2147483648 ≤ K) : impl_UsedCells K l = some ((usedCells l : Int), ()) := by
  unfold impl_UsedCells
  refine (loop_ix (fun j (a : Nat) => ((a : Int), l, (j : Int), (l.length : Int), ())) l.length (fun j a => a ≤ j) (fun j a => some (((a + usedCells (l.drop j) : Nat) : Int), ())) ?_ ?_ (Nat.zero_le _) (by omega) (j0 := 0) (a0 := 0) (by simp)).trans (by simp)
  · intro rec j a hj hi hrec
    simp only [Int.ofNat_lt, hj, decide_true, decide_false, br_true, br_false, br_not, bnd_some', joinK_eq, inK_nat hj, idxK_get hj, wr_succ (show j < 9223372036854775807 by omega), key_eta]
    rw [drop_cons hj]
    unfold usedCells at hrec ⊢
    rw [List.filter_cons]
    cases l[j].used
    · simp only [br_false, Bool.false_eq_true, if_false]; exact hrec _ (by omega)
    · simp only [br_true, if_true]
      rw [show wr ((a : Int) + 1) = ((a + 1 : Nat) : Int) from wr_succ (by omega), hrec _ (by omega), List.length_cons]
      congr 3; omega
  · intro rec a hi
    simp only [Int.ofNat_lt, Nat.lt_irrefl, decide_true, decide_false, br_true, br_false, br_not, bnd_some', joinK_eq, List.drop_length, key_eta]
    simp [usedCells]
theorem spec_UsedCells_eq (l : List Cell) (h : l.length ≤ 1073741824) (hK : 2147483648 ≤ K) : spec_UsedCells K l = some ((usedCells l : Int), ()) := by
  unfold spec_UsedCells
  refine (loop_ix (fun j (a : Nat) => ((a : Int), l, (j : Int), ())) l.length (fun j a => a ≤ j) (fun j a => some (((a + usedCells (l.drop j) : Nat) : Int), ())) ?_ ?_ (Nat.zero_le _) (by omega) (j0 := 0) (a0 := 0) (by simp)).trans (by simp)
  · intro rec j a hj hi hrec
    simp only [Int.ofNat_lt, hj, decide_true, decide_false, br_true, br_false, br_not, bnd_some', joinK_eq, inK_nat hj, idxK_get hj, wr_succ (show j < 9223372036854775807 by omega), key_eta]
    rw [drop_cons hj]
    unfold usedCells at hrec ⊢
    rw [List.filter_cons]
    cases l[j].used
    · simp only [br_false, Bool.false_eq_true, if_false]; exact hrec _ (by omega)
    · simp only [br_true, if_true]
      rw [show wr ((a : Int) + 1) = ((a + 1 : Nat) : Int) from wr_succ (by omega), hrec _ (by omega), List.length_cons]
      congr 3; omega
  · intro rec a hi
    simp only [Int.ofNat_lt, Nat.lt_irrefl, decide_true, decide_false, br_true, br_false, br_not, bnd_some', joinK_eq, List.drop_length, key_eta]
    simp [usedCells]
def freeAt (l : List Cell) : Option Nat := findI (fun c => !c.used) l 0
theorem impl_freeAt_eq (l : List Cell) (h : l.length ≤ 1073741824) (hK : 2147483648 ≤ K) : impl_freeAt K l = some (pairRes (freeAt l), ()) := by
  unfold impl_freeAt
  refine (loop_ix (fun j (_ : Unit) => (l, (j : Int), (l.length : Int), ())) l.length (fun _ _ => True) (fun j _ => some (pairRes (findI (fun c => !c.used) (l.drop j) j), ())) ?_ ?_ (Nat.zero_le _) (by omega) (j0 := 0) (a0 := ()) trivial).trans rfl
  · intro rec j _ hj _ hrec
    have hr := hrec () trivial
    simp only [Int.ofNat_lt, hj, decide_true, decide_false, br_true, br_false, br_not, bnd_some', joinK_eq, inK_nat hj, idxK_get hj, wr_succ (show j < 9223372036854775807 by omega), key_eta]
    rw [drop_cons hj, findI_cons]
    cases l[j].used
    · rfl
    · exact hr
  · intro rec _ _
    simp only [Int.ofNat_lt, Nat.lt_irrefl, decide_true, decide_false, br_true, br_false, br_not, bnd_some', joinK_eq, List.drop_length, key_eta]
    rfl
def takeCell (l : List Cell) (n : Int) : List Cell × Int × Bool := match freeAt l with
  | none => (l, 0, false)
  | some i => if isWord n && cellsOk l then (l.set i ⟨(l.getD i ⟨0, false, 0⟩).gen, true, n⟩, i, true) else (l, 0, false)
theorem impl_copyCells_eq (l : List Cell) (h : l.length ≤ 1073741824) : impl_copyCells K l = some (l, ()) := by
  unfold impl_copyCells
  rw [appK_ok (by simp; omega)]; rfl
theorem spec_l9Copy_eq (l : List Cell) (h : l.length ≤ 1073741824) : spec_l9Copy K l = some (l, ()) := by
  unfold spec_l9Copy
  rw [appK_ok (by simp; omega)]; rfl
theorem impl_copyAges_eq (l : List Age) (h : l.length ≤ 1073741824) : impl_copyAges K l = some (l, ()) := by
  unfold impl_copyAges
  rw [appK_ok (by simp; omega)]; rfl
theorem freeAt_lt {l : List Cell} {i : Nat} (h : freeAt l = some i) : i < l.length := (findI_some h).2.1
theorem set_set {R α : Type} {l : List α} {i : Nat} {a : α} (h : i < l.length) (k : α → Option R) : inK (l.set i a) (i : Int) (idxK (l.set i a) (i : Int) k) = k a := by
  rw [inK_nat (by rw [List.length_set]; exact h), idxK_get (by rw [List.length_set]; exact h), List.getElem_set_self]
theorem impl_TakeCell_eq (l : List Cell) (n : Int) (h : l.length ≤ 1073741824) (hK : 2147483648 ≤ K) : impl_TakeCell K l n = some ((takeCell l n).1, (takeCell l n).2.1, (takeCell l n).2.2, ()) := by
  unfold impl_TakeCell takeCell
  rw [impl_copyCells_eq l h, bnd_some', impl_freeAt_eq l h hK, bnd_some', impl_isWord_eq, bnd_some', impl_CellsOk_eq l h hK, bnd_some', br_not, br_not]
  simp only
  rw [pairRes_neg]
  cases ha : freeAt l with
  | none => rfl
  | some i =>
    have hi := freeAt_lt ha
    simp only [Option.isNone_some, br_false, pairRes]
    cases isWord n
    · rfl
    · cases cellsOk l
      · rfl
      · simp only [br_true, Bool.and_self, if_true]
        rw [inK_nat hi, idxK_get hi, Int.toNat_natCast, set_set hi, List.set_set, getD_get hi]
theorem spec_TakeCell_eq (l : List Cell) (n : Int) (h : l.length ≤ 1073741824) (hK : 2147483648 ≤ K) : spec_TakeCell K l n = some ((takeCell l n).1, (takeCell l n).2.1, (takeCell l n).2.2, ()) := by
  unfold spec_TakeCell
  rw [spec_l9Copy_eq l h, bnd_some']
  refine (loop_ix (fun j (_ : Unit) => (l, l, n, (j : Int), ())) l.length (fun j _ => True) (fun j _ => match findI (fun c => !c.used) (l.drop j) j with
    | none => some (l, 0, false, ())
    | some i => if isWord n && cellsOk l then some (l.set i ⟨(l.getD i ⟨0, false, 0⟩).gen, true, n⟩, (i : Int), true, ()) else some (l, 0, false, ())) ?_ ?_ (Nat.zero_le _) (by omega) (j0 := 0) (a0 := ()) trivial).trans ?_
  · intro rec j _ hj _ hrec
    have hr := hrec () trivial
    simp only [Int.ofNat_lt, hj, decide_true, decide_false, br_true, br_false, br_not, bnd_some', joinK_eq, inK_nat hj, idxK_get hj, wr_succ (show j < 9223372036854775807 by omega), key_eta, spec_CellsOk_eq l h hK, spec_l1Word_eq, Int.toNat_natCast, set_set hj]
    rw [hr, drop_cons hj, findI_cons, List.set_set]
    cases hw : isWord n && cellsOk l
    · have e1 : ∀ (o : Option Nat), (match o with
        | none => some (l, 0, false, ())
        | some i => if isWord n && cellsOk l then some (l.set i ⟨(l.getD i ⟨0, false, 0⟩).gen, true, n⟩, (i : Int), true, ()) else some (l, 0, false, ()) : Option (List Cell × Int × Bool × Unit)) = some (l, 0, false, ()) := by
        intro o; cases o <;> simp [hw]
      simp only [hw] at e1
      rw [e1, e1]
      revert hw
      cases cellsOk l
      · intro _; rfl
      · cases isWord n
        · intro _; rfl
        · intro h; cases h
    · rw [Bool.and_eq_true] at hw
      rw [hw.1, hw.2]
      cases l[j].used
      · simp only [br_true, br_false, Bool.not_false, cond_true, if_true, getD_get hj]
      · rfl
  · intro rec _ _
    simp only [Int.ofNat_lt, Nat.lt_irrefl, decide_true, decide_false, br_true, br_false, br_not, bnd_some', joinK_eq, List.drop_length, key_eta]
    rfl
  · rw [List.drop_zero]
    unfold takeCell freeAt
    cases findI (fun c => !c.used) l 0 with
    | none => rfl
    | some i =>
      simp only
      cases isWord n && cellsOk l <;> rfl
theorem takeCell_length (l : List Cell) (n : Int) : (takeCell l n).1.length = l.length := by
  unfold takeCell
  split
  · rfl
  · split <;> simp
def freeCell (l : List Cell) (c : Int) : List Cell := if cellsOk l && decide (0 ≤ c) then match l[c.toNat]? with
  | some x => if x.used then l.set c.toNat ⟨Int.tmod (wr (x.gen + 1)) 1000, false, 0⟩ else l
  | none => l else l
theorem freeCell_length (l : List Cell) (c : Int) : (freeCell l c).length = l.length := by
  unfold freeCell
  split
  · split
    · split <;> simp
    · rfl
  · rfl
theorem cellsOk_length {l : List Cell} (h : cellsOk l = true) : l.length = 24 := by
  unfold cellsOk at h
  rw [Bool.and_eq_true, decide_eq_true_eq] at h
  exact h.2
theorem impl_FreeCell_eq (l : List Cell) (c : Int) (h : l.length ≤ 1073741824) (hK : 2147483648 ≤ K) : impl_FreeCell K l c = some (freeCell l c, ()) := by
  unfold impl_FreeCell freeCell
  rw [impl_copyCells_eq l h, bnd_some', impl_CellsOk_eq l h hK, bnd_some', impl_within_eq, bnd_some', br_not, br_not]
  simp only
  cases ho : cellsOk l
  · rfl
  have hl := cellsOk_length ho
  have e : inR c 0 23 = decide (0 ≤ c ∧ c.toNat < l.length) := by
    unfold inR
    rw [Bool.eq_iff_iff]; simp; omega
  rw [e, br_true, Bool.true_and]
  by_cases hc : 0 ≤ c ∧ c.toNat < l.length
  · obtain ⟨j, rfl⟩ := Int.eq_ofNat_of_zero_le hc.1
    have hj : j < l.length := by have := hc.2; omega
    rw [decide_eq_true hc, br_true, inK_nat hj, idxK_get hj, br_not, Int.toNat_natCast, List.getElem?_eq_getElem hj, inK_nat hj, idxK_get hj, inK_nat hj, idxK_get hj]
    simp only [hc.1, decide_true, if_true]
    cases l[j].used <;> rfl
  · rw [decide_eq_false hc, br_false]
    split
    · rename_i h0
      rw [List.getElem?_eq_none (by have := of_decide_eq_true h0; omega)]
    · rfl
theorem spec_FreeCell_eq (l : List Cell) (c : Int) (h : l.length ≤ 1073741824) (hK : 2147483648 ≤ K) : spec_FreeCell K l c = some (freeCell l c, ()) := by
  unfold spec_FreeCell freeCell
  simp only [joinK_eq]
  rw [spec_l9Copy_eq l h, bnd_some', spec_CellsOk_eq l h hK, bnd_some', spec_l1In_eq, bnd_some', inR_idx h]
  simp only
  cases ho : cellsOk l
  · rfl
  rw [br_true, Bool.true_and]
  by_cases hc : 0 ≤ c ∧ c.toNat < l.length
  · obtain ⟨j, rfl⟩ := Int.eq_ofNat_of_zero_le hc.1
    have hj : j < l.length := by have := hc.2; omega
    rw [decide_eq_true hc, br_true, inK_nat hj, idxK_get hj, Int.toNat_natCast, List.getElem?_eq_getElem hj, inK_nat hj, idxK_get hj, inK_nat hj, idxK_get hj]
    simp only [hc.1, decide_true, if_true]
    cases l[j].used <;> rfl
  · rw [decide_eq_false hc, br_false]
    split
    · rename_i h0
      rw [List.getElem?_eq_none (by have := of_decide_eq_true h0; omega)]
    · rfl
end
end Go.Proofs.Fw.R1
set_option linter.unusedVariables false
set_option linter.unusedSimpArgs false
namespace Go.Proofs.Fw.R1
open Go.Proofs.Fw
structure Pool where
  ls : List Int
  ns : List Node
  ages : List Age
  cells : List Cell
  vols : List Vol
  next : Int
@[simp] theorem pool_eta (p : Pool) : (⟨p.ls, p.ns, p.ages, p.cells, p.vols, p.next⟩ : Pool) = p := rfl
structure PB (ls : List Int) (ns : List Node) (ages : List Age) (cells : List Cell) (vols : List Vol) : Prop where
  tree : TB ls ns
  agesB : ages.length ≤ 67108864
  cellsB : cells.length ≤ 67108864
  volsB : vols.length ≤ 67108864
  names : ∀ v ∈ vols, v.name.length ≤ 67108864
def nameOk (s : List Int) : Bool := s.all (fun x => inR (wr x) 97 122 || inR (wr x) 48 57) && inR s.length 1 6
section
variable {K : Nat}
theorem impl_NameOk_eq (s : List Int) (h : s.length ≤ 1073741824) (hK : 2147483648 ≤ K) : impl_NameOk K s = some (nameOk s, ()) := by
  unfold impl_NameOk nameOk
  refine (loop_ix (fun j (_ : Unit) => (s, (j : Int), ())) s.length (fun _ _ => True) (fun j _ => some ((s.drop j).all (fun x => inR (wr x) 97 122 || inR (wr x) 48 57) && inR s.length 1 6, ())) ?_ ?_ (Nat.zero_le _) (by omega) (j0 := 0) (a0 := ()) trivial).trans rfl
  · intro rec j _ hj _ hrec
    have hr := hrec () trivial
    simp only [Int.ofNat_lt, hj, decide_true, decide_false, br_true, br_false, br_not, bnd_some', joinK_eq, inK_nat hj, idxK_get hj, wr_succ (show j < 9223372036854775807 by omega), key_eta, impl_within_eq, hr]
    rw [drop_cons hj, List.all_cons]
    cases inR (wr s[j]) 97 122
    · cases inR (wr s[j]) 48 57 <;> rfl
    · rfl
  · intro rec _ _
    simp only [Int.ofNat_lt, Nat.lt_irrefl, decide_true, decide_false, br_true, br_false, br_not, bnd_some', joinK_eq, List.drop_length, key_eta, impl_within_eq, List.all_nil, Bool.true_and]
theorem spec_NameOk_eq (s : List Int) (h : s.length ≤ 1073741824) (hK : 2147483648 ≤ K) : spec_NameOk K s = some (nameOk s, ()) := by
  unfold spec_NameOk nameOk
  refine (loop_ix (fun j (_ : Unit) => (s, (j : Int), ())) s.length (fun _ _ => True) (fun j _ => some ((s.drop j).all (fun x => inR (wr x) 97 122 || inR (wr x) 48 57) && inR s.length 1 6, ())) ?_ ?_ (Nat.zero_le _) (by omega) (j0 := 0) (a0 := ()) trivial).trans rfl
  · intro rec j _ hj _ hrec
    have hr := hrec () trivial
    simp only [Int.ofNat_lt, hj, decide_true, decide_false, br_true, br_false, br_not, bnd_some', joinK_eq, inK_nat hj, idxK_get hj, wr_succ (show j < 9223372036854775807 by omega), key_eta, spec_l1In_eq, hr]
    rw [drop_cons hj, List.all_cons]
    cases inR (wr s[j]) 97 122
    · cases inR (wr s[j]) 48 57 <;> rfl
    · rfl
  · intro rec _ _
    simp only [Int.ofNat_lt, Nat.lt_irrefl, decide_true, decide_false, br_true, br_false, br_not, bnd_some', joinK_eq, List.drop_length, key_eta, spec_l1In_eq, List.all_nil, Bool.true_and]
def volAt (l : List Vol) (s : List Int) : Option Nat := findI (fun v => decide (v.name = s)) l 0
theorem volIdx_eq (l : List Vol) (s : List Int) (h : l.length ≤ 1073741824) (hK : 2147483648 ≤ K) : slices_IndexFunc__impl_Vol_impl_Vol_impl_VolAt_1 K l s = some (pairRes (volAt l s), ()) := by
  unfold slices_IndexFunc__impl_Vol_impl_Vol_impl_VolAt_1
  refine (loop_ix (fun j (_ : Unit) => (l, (j : Int), (l.length : Int), s, ())) l.length (fun _ _ => True) (fun j _ => some (pairRes (findI (fun v => decide (v.name = s)) (l.drop j) j), ())) ?_ ?_ (Nat.zero_le _) (by omega) (j0 := 0) (a0 := ()) trivial).trans rfl
  · intro rec j _ hj _ hrec
    have hr := hrec () trivial
    simp only [Int.ofNat_lt, hj, decide_true, decide_false, br_true, br_false, br_not, bnd_some', joinK_eq, inK_nat hj, idxK_get hj, wr_succ (show j < 9223372036854775807 by omega), key_eta, impl_VolAt_1]
    rw [drop_cons hj, findI_cons]
    cases decide (l[j].name = s)
    · exact hr
    · rfl
  · intro rec _ _
    simp only [Int.ofNat_lt, Nat.lt_irrefl, decide_true, decide_false, br_true, br_false, br_not, bnd_some', joinK_eq, List.drop_length, key_eta]
    rfl
theorem impl_VolAt_eq (ls : List Int) (ns : List Node) (ages : List Age) (cells : List Cell) (vols : List Vol) (next : Int) (s : List Int) (h : vols.length ≤ 1073741824) (hK : 2147483648 ≤ K) :
    impl_VolAt K ls ns ages cells vols next s = some (pairRes (volAt vols s), ()) := by
  unfold impl_VolAt
  rw [volIdx_eq vols s h hK]
  rfl
theorem spec_VolAt_eq (ls : List Int) (ns : List Node) (ages : List Age) (cells : List Cell) (vols : List Vol) (next : Int) (s : List Int) (h : vols.length ≤ 1073741824) (hK : 2147483648 ≤ K) :
    spec_VolAt K ls ns ages cells vols next s = some (pairRes (volAt vols s), ()) := by
  unfold spec_VolAt
  refine (loop_ix (fun j (_ : Unit) => (next, vols, cells, ages, ns, ls, s, (j : Int), ())) vols.length (fun _ _ => True) (fun j _ => some (pairRes (findI (fun v => decide (v.name = s)) (vols.drop j) j), ())) ?_ ?_ (Nat.zero_le _) (by omega) (j0 := 0) (a0 := ()) trivial).trans rfl
  · intro rec j _ hj _ hrec
    have hr := hrec () trivial
    simp only [Int.ofNat_lt, hj, decide_true, decide_false, br_true, br_false, br_not, bnd_some', joinK_eq, inK_nat hj, idxK_get hj, wr_succ (show j < 9223372036854775807 by omega), key_eta]
    rw [drop_cons hj, findI_cons]
    cases decide (vols[j].name = s)
    · exact hr
    · rfl
  · intro rec _ _
    simp only [Int.ofNat_lt, Nat.lt_irrefl, decide_true, decide_false, br_true, br_false, br_not, bnd_some', joinK_eq, List.drop_length, key_eta]
    rfl
theorem volsIdx_eq (l : List Vol) (s : List Int) (i z : Int) (fx : Bool) (h : l.length ≤ 1073741824) (hK : 2147483648 ≤ K) : slices_IndexFunc__impl_Vol_impl_Vol_impl_volsOk_1 K l s i z fx = some (pairRes (findI (fun v => decide (v.age = i)) l 0), ()) := by
  unfold slices_IndexFunc__impl_Vol_impl_Vol_impl_volsOk_1
  refine (loop_ix (fun j (_ : Unit) => (l, (j : Int), (l.length : Int), s, i, z, fx, ())) l.length (fun _ _ => True) (fun j _ => some (pairRes (findI (fun v => decide (v.age = i)) (l.drop j) j), ())) ?_ ?_ (Nat.zero_le _) (by omega) (j0 := 0) (a0 := ()) trivial).trans rfl
  · intro rec j _ hj _ hrec
    have hr := hrec () trivial
    simp only [Int.ofNat_lt, hj, decide_true, decide_false, br_true, br_false, br_not, bnd_some', joinK_eq, inK_nat hj, idxK_get hj, wr_succ (show j < 9223372036854775807 by omega), key_eta, impl_volsOk_1]
    rw [drop_cons hj, findI_cons]
    cases decide (l[j].age = i)
    · exact hr
    · rfl
  · intro rec _ _
    simp only [Int.ofNat_lt, Nat.lt_irrefl, decide_true, decide_false, br_true, br_false, br_not, bnd_some', joinK_eq, List.drop_length, key_eta]
    rfl
theorem findI_any {α : Type} (p : α → Bool) : ∀ (l : List α) (j : Nat), (findI p l j).isSome = l.any p
  | [], j => rfl
  | x :: r, j => by
    rw [findI_cons, List.any_cons, ← findI_any p r (j + 1)]
    cases p x <;> rfl
theorem volsHas_eq (l : List Vol) (s : List Int) (i z : Int) (fx : Bool) (h : l.length ≤ 1073741824) (hK : 2147483648 ≤ K) : slices_ContainsFunc__impl_Vol_impl_Vol_impl_volsOk_1 K l s i z fx = some (l.any (fun v => decide (v.age = i)), ()) := by
  unfold slices_ContainsFunc__impl_Vol_impl_Vol_impl_volsOk_1
  rw [volsIdx_eq l s i z fx h hK, bnd_some']
  simp only
  rw [pairRes_ge, findI_any]
def volsOkAt (ages : List Age) (vols : List Vol) (j : Nat) : Bool := match vols[j]? with
  | some x => nameOk x.name && ((decide (j = 0) || lessI (vols.getD (j - 1) ⟨[], 0, 0, false⟩).name x.name) && (inR x.size 1 12 && ((ageAt ages x.age).isSome && (decide ((kidsOf ages x.age).length = 0) && !(vols.take j).any (fun v => decide (v.age = x.age))))))
  | none => false
def volsOk (ages : List Age) (vols : List Vol) : Bool := (List.range' 0 vols.length).all (volsOkAt ages vols) && decide (vols.length ≤ 6)
theorem vols_chk {R : Type} (l : List Vol) (j : Nat) (h : j < l.length) (F N N' : Option R) (hl : l.length ≤ 1073741824) (hN : j = 0 → N = N') :
    br (decide ((j : Int) > 0)) (inK l (wr ((j : Int) - 1)) <| idxK l (wr ((j : Int) - 1)) fun x4 => br (lessI x4.name l[j].name) N F) N' = if decide (j = 0) || lessI (l.getD (j - 1) ⟨[], 0, 0, false⟩).name l[j].name then N else F := by
  cases j with
  | zero => rw [hN rfl]; rfl
  | succ i =>
    rw [decide_eq_true (show ((i + 1 : Nat) : Int) > 0 by omega), br_true, wr_pred (by omega), inK_nat (show i < l.length by omega), idxK_get (show i < l.length by omega)]
    have e : l.getD (i + 1 - 1) ⟨[], 0, 0, false⟩ = l[i] := getD_get (by omega) _
    rw [e]
    cases lessI l[i].name l[i + 1].name <;> simp
theorem dec_gt0 (n : Nat) : decide ((n : Int) > (0 : Int)) = !decide (n = 0) := by
  rw [← decide_not]; exact decide_eq_decide.2 (by omega)
theorem impl_volsOk_eq (ls : List Int) (ns : List Node) (ages : List Age) (cells : List Cell) (vols : List Vol) (next : Int) (h : PB ls ns ages cells vols) (hK : 2147483648 ≤ K) :
    impl_volsOk K ls ns ages cells vols next = some (volsOk ages vols, ()) := by
  obtain ⟨-, ha, -, hv, hn⟩ := h
  unfold impl_volsOk volsOk
  refine (loop_ix (fun j (_ : Unit) => (next, vols, cells, ages, ns, ls, vols, (j : Int), (vols.length : Int), ())) vols.length (fun _ _ => True) (fun j _ => some ((List.range' j (vols.length - j)).all (volsOkAt ages vols) && decide (vols.length ≤ 6), ())) ?_ ?_ (Nat.zero_le _) (by omega) (j0 := 0) (a0 := ()) trivial).trans rfl
  · intro rec j _ hj _ hrec
    have hr := hrec () trivial
    have hnl := hn _ (List.getElem_mem hj)
    have hkl := kidsOf_length ages vols[j].age
    simp only [Int.ofNat_lt, hj, decide_true, decide_false, br_true, br_false, br_not, bnd_some', joinK_eq, inK_nat hj, idxK_get hj, wr_succ (show j < 9223372036854775807 by omega), key_eta, impl_NameOk_eq vols[j].name (by omega) hK, impl_within_eq, impl_AgeAt_eq ages vols[j].age (by omega) hK, impl_KidsOf_eq ages vols[j].age (by omega) hK, subK_zero (show j ≤ vols.length by omega), volsHas_eq (vols.take j) vols[j].name vols[j].age vols[j].size vols[j].fixed (by simp; omega) hK, hr, pairRes_neg, dec_gt0 (kidsOf ages vols[j].age).length]
    rw [vols_chk vols j hj _ _ _ (by omega) (fun _ => rfl), range_all hj]
    have e : volsOkAt ages vols j = (nameOk vols[j].name && ((decide (j = 0) || lessI (vols.getD (j - 1) ⟨[], 0, 0, false⟩).name vols[j].name) && (inR vols[j].size 1 12 && ((ageAt ages vols[j].age).isSome && (decide ((kidsOf ages vols[j].age).length = 0) && !(vols.take j).any (fun v => decide (v.age = vols[j].age))))))) := by
      unfold volsOkAt
      rw [List.getElem?_eq_getElem hj]
    rw [e]
    cases nameOk vols[j].name
    · rfl
    · cases decide (j = 0) || lessI (vols.getD (j - 1) ⟨[], 0, 0, false⟩).name vols[j].name
      · rfl
      · cases inR vols[j].size 1 12
        · rfl
        · cases ageAt ages vols[j].age with
          | none => rfl
          | some i =>
            cases decide ((kidsOf ages vols[j].age).length = 0)
            · rfl
            · cases (vols.take j).any (fun v => decide (v.age = vols[j].age)) <;> rfl
  · intro rec _ _
    simp only [Int.ofNat_lt, Nat.lt_irrefl, decide_true, decide_false, br_true, br_false, br_not, bnd_some', joinK_eq, List.drop_length, key_eta, range_all_end, Bool.true_and]
    have e := dec_le vols.length 6
    rw [← e]; rfl
theorem spec_l10Vols_eq (ls : List Int) (ns : List Node) (ages : List Age) (cells : List Cell) (vols : List Vol) (next : Int) (h : PB ls ns ages cells vols) (hK : 2147483648 ≤ K) :
    spec_l10Vols K ls ns ages cells vols next = some (volsOk ages vols, ()) := by
  obtain ⟨-, ha, -, hv, hn⟩ := h
  unfold spec_l10Vols volsOk
  refine (loop_ix (fun j (_ : Unit) => (next, vols, cells, ages, ns, ls, (j : Int), ())) vols.length (fun _ _ => True) (fun j _ => some ((List.range' j (vols.length - j)).all (volsOkAt ages vols) && decide (vols.length ≤ 6), ())) ?_ ?_ (Nat.zero_le _) (by omega) (j0 := 0) (a0 := ()) trivial).trans rfl
  · intro rec j _ hj _ hrec
    have hr := hrec () trivial
    have hnl := hn _ (List.getElem_mem hj)
    have hkl := kidsOf_length ages vols[j].age
    have inner : loopFix K (fun r9 (s8 : Int × List (Vol) × List (Cell) × List (Age) × List (Node) × List (Int) × Bool × Int × Int × List Int × Int × Int × Unit) =>
          br (decide (s8.2.2.2.2.2.2.2.2.2.2.2.1 < s8.2.2.2.2.2.2.2.2.2.2.1)) (
           inK s8.2.1 s8.2.2.2.2.2.2.2.2.2.2.2.1 <|
           idxK s8.2.1 s8.2.2.2.2.2.2.2.2.2.2.2.1 fun x10 =>
           br (decide (x10.age = s8.2.2.2.2.2.2.2.2.1)) (
            some (false, ())) (
            r9 (s8.1, s8.2.1, s8.2.2.1, s8.2.2.2.1, s8.2.2.2.2.1, s8.2.2.2.2.2.1, s8.2.2.2.2.2.2.1, s8.2.2.2.2.2.2.2.1, s8.2.2.2.2.2.2.2.2.1, s8.2.2.2.2.2.2.2.2.2.1, s8.2.2.2.2.2.2.2.2.2.2.1, (wr (s8.2.2.2.2.2.2.2.2.2.2.2.1 + (1:Int))), ()))) (
           rec (s8.1, s8.2.1, s8.2.2.1, s8.2.2.2.1, s8.2.2.2.2.1, s8.2.2.2.2.2.1, (wr (s8.2.2.2.2.2.2.2.2.2.2.1 + (1:Int))), ()))) (next, vols, cells, ages, ns, ls, vols[j].fixed, vols[j].size, vols[j].age, vols[j].name, (j : Int), (0:Int), ())
        = if (vols.take j).any (fun v => decide (v.age = vols[j].age)) then some (false, ()) else some ((List.range' (j + 1) (vols.length - (j + 1))).all (volsOkAt ages vols) && decide (vols.length ≤ 6), ()) := by
      refine (loop_ix (fun m (_ : Unit) => (next, vols, cells, ages, ns, ls, vols[j].fixed, vols[j].size, vols[j].age, vols[j].name, (j : Int), (m : Int), ())) j (fun _ _ => True) (fun m _ => if ((vols.take j).drop m).any (fun v => decide (v.age = vols[j].age)) then some (false, ()) else some ((List.range' (j + 1) (vols.length - (j + 1))).all (volsOkAt ages vols) && decide (vols.length ≤ 6), ())) ?_ ?_ (Nat.zero_le _) (by omega) (j0 := 0) (a0 := ()) trivial).trans rfl
      · intro rec2 m _ hm _ hrec2
        have hr2 := hrec2 () trivial
        have hmv : m < vols.length := by omega
        have hmt : m < (vols.take j).length := by rw [List.length_take]; omega
        simp only [Int.ofNat_lt, hm, decide_true, br_true, inK_nat hmv, idxK_get hmv, show wr ((m : Int) + 1) = ((m + 1 : Nat) : Int) from wr_succ (by omega), hr2]
        rw [drop_cons hmt, List.any_cons, List.getElem_take]
        cases decide (vols[m].age = vols[j].age) <;> rfl
      · intro rec2 _ _
        simp only [Int.ofNat_lt, Nat.lt_irrefl, decide_false, br_false, show wr ((j : Int) + 1) = ((j + 1 : Nat) : Int) from wr_succ (by omega), hr]
        rw [List.drop_eq_nil_of_le (by rw [List.length_take]; omega)]
        rfl
    simp only [Int.ofNat_lt, hj, decide_true, decide_false, br_true, br_false, br_not, bnd_some', joinK_eq, inK_nat hj, idxK_get hj, wr_succ (show j < 9223372036854775807 by omega), key_eta, spec_NameOk_eq vols[j].name (by omega) hK, spec_l1In_eq, spec_AgeAt_eq ages vols[j].age (by omega) hK, spec_KidsOf_eq ages vols[j].age (by omega) hK, pairRes_neg, dec_gt0 (kidsOf ages vols[j].age).length]
    rw [inner, vols_chk vols j hj _ _ _ (by omega) (fun _ => rfl), range_all hj]
    have e : volsOkAt ages vols j = (nameOk vols[j].name && ((decide (j = 0) || lessI (vols.getD (j - 1) ⟨[], 0, 0, false⟩).name vols[j].name) && (inR vols[j].size 1 12 && ((ageAt ages vols[j].age).isSome && (decide ((kidsOf ages vols[j].age).length = 0) && !(vols.take j).any (fun v => decide (v.age = vols[j].age))))))) := by
      unfold volsOkAt
      rw [List.getElem?_eq_getElem hj]
    rw [e]
    cases nameOk vols[j].name
    · rfl
    · cases inR vols[j].size 1 12
      · rw [Bool.false_and, Bool.and_false]; rfl
      · cases ageAt ages vols[j].age with
        | none =>
          simp only [Option.isSome_none, Option.isNone_none, Bool.false_and, Bool.and_false, br_true, br_false]
        | some i =>
          cases decide ((kidsOf ages vols[j].age).length = 0)
          · simp only [Option.isSome_some, Option.isNone_some, Bool.false_and, Bool.and_false, br_true, br_false]
          · cases decide (j = 0) || lessI (vols.getD (j - 1) ⟨[], 0, 0, false⟩).name vols[j].name
            · rfl
            · cases (vols.take j).any (fun v => decide (v.age = vols[j].age)) <;> rfl
  · intro rec _ _
    simp only [Int.ofNat_lt, Nat.lt_irrefl, decide_true, decide_false, br_true, br_false, br_not, bnd_some', joinK_eq, List.drop_length, key_eta, range_all_end, Bool.true_and]
    have e := dec_le vols.length 6
    rw [← e]; rfl
def dupAt (l : List Key) (c : Int) : Bool := l.any fun k => decide (k.kind = 1) && decide (k.cell = c)
def keyFit (ages : List Age) (cells : List Cell) (ks : List Key) (j : Nat) : Bool := match ks[j]? with
  | some x => (ageAt ages x.age).isSome && (!decide (x.kind = 1) || ((cellAt cells x.cell x.gen).isSome && !dupAt (ks.take j) x.cell))
  | none => false
def dataKeys (ks : List Key) : Nat := (ks.filter fun k => decide (k.kind = 1)).length
def keysFit (ages : List Age) (cells : List Cell) (ks : List Key) : Bool := (List.range' 0 ks.length).all (keyFit ages cells ks) && decide (dataKeys ks = usedCells cells)
theorem cellAt_range {l : List Cell} {c g : Int} (h : (cellAt l c g).isSome = true) : ∃ m : Nat, c = m ∧ m < l.length := by
  unfold cellAt at h
  split at h
  · rename_i h0
    obtain ⟨m, rfl⟩ := Int.eq_ofNat_of_zero_le h0
    split at h
    · rename_i x hx
      exact ⟨m, rfl, (List.getElem?_eq_some_iff.1 hx).1⟩
    · cases h
  · cases h
theorem take_succ_get {α : Type} {l : List α} {j : Nat} (h : j < l.length) : l.take (j + 1) = l.take j ++ [l[j]] := List.take_succ_eq_append_getElem h
theorem intRes_snd (o : Option Int) : (intRes o).2.1 = o.isSome := by cases o <;> rfl
theorem dataKeys_take (ks : List Key) {j : Nat} (h : j < ks.length) : dataKeys (ks.take (j + 1)) = dataKeys (ks.take j) + if decide (ks[j].kind = 1) then 1 else 0 := by
  unfold dataKeys
  rw [take_succ_get h, List.filter_append, List.length_append, List.filter_cons]
  by_cases hk : ks[j].kind = 1 <;> simp [hk]
theorem impl_keysFit_eq (ls : List Int) (ns : List Node) (ages : List Age) (cells : List Cell) (vols : List Vol) (next : Int) (h : PB ls ns ages cells vols) (hc : cells.length = 24) (hK : 2147483648 ≤ K) :
    impl_keysFit K ls ns ages cells vols next = some (keysFit ages cells (treeKeys ns), ()) := by
  obtain ⟨ht, ha, -, hv, -⟩ := h
  have hkl := treeKeys_length ns
  have htt := ht.2.2.1
  unfold impl_keysFit keysFit
  rw [makeK_ok (n := (24 : Int)) (m := 24) rfl (by omega), impl_TreeKeys_eq ls ns ht hK, bnd_some']
  simp only
  generalize hks : treeKeys ns = ks at *
  have hz : List.replicate 24 (zeroT tB) = (List.range 24).map fun c => dupAt (ks.take 0) (c : Nat) := by
    rw [List.take_zero]; rfl
  rw [hz]
  refine (loop_ix (fun j (_ : Unit) => (next, vols, cells, ages, ns, ls, ((dataKeys (ks.take j) : Nat) : Int), ks, (List.range 24).map (fun c => dupAt (ks.take j) (c : Nat)), (j : Int), (ks.length : Int), ())) ks.length (fun _ _ => True) (fun j _ => some ((List.range' j (ks.length - j)).all (keyFit ages cells ks) && decide (dataKeys ks = usedCells cells), ())) ?_ ?_ (Nat.zero_le _) (by omega) (j0 := 0) (a0 := ()) trivial).trans rfl
  · intro rec j _ hj _ hrec
    have hr := hrec () trivial
    have hdl : dataKeys (ks.take j) ≤ j := by
      unfold dataKeys
      have h1 := List.length_filter_le (fun k : Key => decide (k.kind = 1)) (ks.take j)
      rw [List.length_take] at h1; omega
    have hdt := dataKeys_take ks hj
    simp only [Int.ofNat_lt, hj, decide_true, decide_false, br_true, br_false, br_not, bnd_some', joinK_eq, inK_nat hj, idxK_get hj, wr_succ (show j < 9223372036854775807 by omega), key_eta, impl_AgeAt_eq ages ks[j].age (by omega) hK, impl_CellAt_eq cells ks[j].cell ks[j].gen (by omega), pairRes_neg, intRes_snd]
    rw [range_all hj]
    have e : keyFit ages cells ks j = ((ageAt ages ks[j].age).isSome && (!decide (ks[j].kind = 1) || ((cellAt cells ks[j].cell ks[j].gen).isSome && !dupAt (ks.take j) ks[j].cell))) := by
      unfold keyFit
      rw [List.getElem?_eq_getElem hj]
    rw [e]
    cases ageAt ages ks[j].age with
    | none => rfl
    | some i =>
      simp only [Option.isNone_some, br_false, Option.isSome_some, Bool.true_and]
      by_cases hk : ks[j].kind = 1
      · rw [decide_eq_false (show ¬ ks[j].kind ≠ 1 by simp [hk]), br_false, decide_eq_true hk, Bool.not_true, Bool.false_or]
        cases hs : (cellAt cells ks[j].cell ks[j].gen).isSome
        · rfl
        · obtain ⟨m, hm, hml⟩ := cellAt_range hs
          rw [hm]
          have hlen : ((List.range 24).map (fun c => dupAt (ks.take j) (c : Nat))).length = 24 := by simp
          have hget : ((List.range 24).map (fun c => dupAt (ks.take j) (c : Nat)))[m]? = some (dupAt (ks.take j) (m : Nat)) := by
            rw [List.getElem?_map, List.getElem?_range (by omega)]; rfl
          rw [br_true, Bool.true_and, inK_nat (by rw [hlen]; omega), idxK_nat' hget, idxK_nat' hget]
          cases hd : dupAt (ks.take j) (m : Nat)
          · rw [br_false, Bool.not_false, Bool.true_and, inK_nat (by rw [hlen]; omega), Int.toNat_natCast]
            rw [hk] at hdt
            have ew : wr ((dataKeys (ks.take j) : Int) + 1) = ((dataKeys (ks.take (j + 1)) : Nat) : Int) := by
              rw [hdt]; exact wr_succ (by omega)
            rw [ew]
            have es : ((List.range 24).map (fun c => dupAt (ks.take j) (c : Nat))).set m true = (List.range 24).map (fun c => dupAt (ks.take (j + 1)) (c : Nat)) := by
              apply List.ext_getElem?
              intro q
              rw [List.getElem?_set, List.getElem?_map, List.getElem?_map]
              by_cases hq : q < 24
              · rw [List.getElem?_range hq]
                simp only [Option.map_some, hlen]
                rw [take_succ_get hj]
                unfold dupAt
                rw [List.any_append, List.any_cons, List.any_nil, hk, hm]
                by_cases hmq : m = q
                · subst hmq; rw [if_pos rfl, if_pos hq]; simp
                · rw [if_neg hmq, show decide (((m : Nat) : Int) = (q : Int)) = false from decide_eq_false (by omega)]; simp
              · rw [List.getElem?_eq_none (by simpa using hq)]
                have : m ≠ q := by omega
                simp [this]
            rw [es]
            exact hr
          · rfl
      · rw [decide_eq_true (show ks[j].kind ≠ 1 from hk), br_true, decide_eq_false hk, Bool.not_false, Bool.true_or, Bool.true_and]
        rw [decide_eq_false hk] at hdt
        have es : (List.range 24).map (fun c => dupAt (ks.take j) (c : Nat)) = (List.range 24).map (fun c => dupAt (ks.take (j + 1)) (c : Nat)) := by
          refine List.map_congr_left fun c _ => ?_
          rw [take_succ_get hj]
          unfold dupAt
          rw [List.any_append, List.any_cons, List.any_nil, decide_eq_false hk]; simp
        rw [es]
        simp only [Bool.false_eq_true, if_false, Nat.add_zero] at hdt
        rw [← hdt]
        exact hr
  · intro rec _ _
    simp only [Int.ofNat_lt, Nat.lt_irrefl, decide_true, decide_false, br_true, br_false, br_not, bnd_some', joinK_eq, List.drop_length, key_eta, impl_UsedCells_eq cells (by omega) hK, range_all_end, Bool.true_and, List.take_length]
    rw [dec_eqN, show decide (usedCells cells = dataKeys ks) = decide (dataKeys ks = usedCells cells) from decide_eq_decide.2 ⟨Eq.symm, Eq.symm⟩]
theorem spec_l10Keys_eq (ls : List Int) (ns : List Node) (ages : List Age) (cells : List Cell) (vols : List Vol) (next : Int) (h : PB ls ns ages cells vols) (hK : 2147483648 ≤ K) :
    spec_l10Keys K ls ns ages cells vols next = some (keysFit ages cells (treeKeys ns), ()) := by
  obtain ⟨ht, ha, hcl, hv, -⟩ := h
  have hkl := treeKeys_length ns
  have htt := ht.2.2.1
  unfold spec_l10Keys keysFit
  rw [spec_TreeKeys_eq ls ns ht hK, bnd_some']
  simp only
  generalize hks : treeKeys ns = ks at *
  refine (loop_ix (fun j (_ : Unit) => (next, vols, cells, ages, ns, ls, ((dataKeys (ks.take j) : Nat) : Int), (j : Int), ks, ())) ks.length (fun _ _ => True) (fun j _ => some ((List.range' j (ks.length - j)).all (keyFit ages cells ks) && decide (dataKeys ks = usedCells cells), ())) ?_ ?_ (Nat.zero_le _) (by omega) (j0 := 0) (a0 := ()) trivial).trans rfl
  · intro rec j _ hj _ hrec
    have hr := hrec () trivial
    have hdl : dataKeys (ks.take j) ≤ j := by
      unfold dataKeys
      have h1 := List.length_filter_le (fun k : Key => decide (k.kind = 1)) (ks.take j)
      rw [List.length_take] at h1; omega
    have hdt := dataKeys_take ks hj
    have hwr := wr_succ (show j < 9223372036854775807 by omega)
    simp only [Int.ofNat_lt, hj, decide_true, decide_false, br_true, br_false, br_not, bnd_some', joinK_eq, inK_nat hj, idxK_get hj, wr_succ (show j < 9223372036854775807 by omega), key_eta, spec_AgeAt_eq ages ks[j].age (by omega) hK, spec_CellAt_eq cells ks[j].cell ks[j].gen (by omega), pairRes_neg, intRes_snd]
    rw [range_all hj]
    have e : keyFit ages cells ks j = ((ageAt ages ks[j].age).isSome && (!decide (ks[j].kind = 1) || ((cellAt cells ks[j].cell ks[j].gen).isSome && !dupAt (ks.take j) ks[j].cell))) := by
      unfold keyFit
      rw [List.getElem?_eq_getElem hj]
    rw [e]
    cases ageAt ages ks[j].age with
    | none => rfl
    | some i =>
      simp only [Option.isNone_some, br_false, Option.isSome_some, Bool.true_and]
      by_cases hk : ks[j].kind = 1
      · rw [decide_eq_false (show ¬ ks[j].kind ≠ 1 by simp [hk]), br_false, decide_eq_true hk, Bool.not_true, Bool.false_or]
        rw [hk] at hdt
        have ew : wr ((dataKeys (ks.take j) : Int) + 1) = ((dataKeys (ks.take (j + 1)) : Nat) : Int) := by
          rw [hdt]; exact wr_succ (by omega)
        rw [ew]
        cases hs : (cellAt cells ks[j].cell ks[j].gen).isSome
        · rfl
        · rw [br_true, Bool.true_and]
          refine (loop_ix (fun m (_ : Unit) => (next, vols, cells, ages, ns, ls, ks, ((dataKeys (ks.take (j + 1)) : Nat) : Int), (j : Int), (m : Int), ())) j (fun _ _ => True) (fun m _ => if dupAt ((ks.take j).drop m) ks[j].cell then some (false, ()) else some ((List.range' (j + 1) (ks.length - (j + 1))).all (keyFit ages cells ks) && decide (dataKeys ks = usedCells cells), ())) ?_ ?_ (Nat.zero_le _) (by omega) (j0 := 0) (a0 := ()) trivial).trans ?_
          · intro rec2 m _ hm _ hrec2
            have hr2 := hrec2 () trivial
            have hmv : m < ks.length := by omega
            have hmt : m < (ks.take j).length := by rw [List.length_take]; omega
            simp only [Int.ofNat_lt, hm, decide_true, br_true, inK_nat hmv, idxK_get hmv, inK_nat hj, idxK_get hj, show wr ((m : Int) + 1) = ((m + 1 : Nat) : Int) from wr_succ (by omega), hr2]
            rw [drop_cons hmt, List.getElem_take]
            unfold dupAt
            rw [List.any_cons]
            cases decide (ks[m].kind = 1)
            · simp
            · cases decide (ks[m].cell = ks[j].cell) <;> simp
          · intro rec2 _ _
            simp only [Int.ofNat_lt, Nat.lt_irrefl, decide_false, br_false, show wr ((j : Int) + 1) = ((j + 1 : Nat) : Int) from hwr, hr]
            rw [List.drop_eq_nil_of_le (by rw [List.length_take]; omega)]
            rfl
          · rw [List.drop_zero]
            cases dupAt (ks.take j) ks[j].cell <;> rfl
      · rw [decide_eq_true (show ks[j].kind ≠ 1 from hk), br_true, decide_eq_false hk, Bool.not_false, Bool.true_or, Bool.true_and]
        rw [decide_eq_false hk] at hdt
        simp only [Bool.false_eq_true, if_false, Nat.add_zero] at hdt
        rw [← hdt]
        exact hr
  · intro rec _ _
    simp only [Int.ofNat_lt, Nat.lt_irrefl, decide_true, decide_false, br_true, br_false, br_not, bnd_some', joinK_eq, List.drop_length, key_eta, spec_UsedCells_eq cells (by omega) hK, range_all_end, Bool.true_and, List.take_length]
    rw [dec_eqN]
def poolOk (p : Pool) : Bool := treeOk p.ls p.ns && (agesOk p.ages && (cellsOk p.cells && (inR p.next 1 61 && (p.ages.all (fun a => !decide (a.id ≥ p.next)) && (volsOk p.ages p.vols && keysFit p.ages p.cells (treeKeys p.ns))))))
theorem impl_PoolOk_eq (ls : List Int) (ns : List Node) (ages : List Age) (cells : List Cell) (vols : List Vol) (next : Int) (h : PB ls ns ages cells vols) (hK : 2147483648 ≤ K) :
    impl_PoolOk K ls ns ages cells vols next = some (poolOk ⟨ls, ns, ages, cells, vols, next⟩, ()) := by
  have hB := h
  obtain ⟨ht, ha, hcl, hv, -⟩ := h
  unfold impl_PoolOk poolOk
  rw [impl_TreeOk_eq ls ns ht hK, bnd_some', br_not, impl_AgesOk_eq ages (by omega) hK, bnd_some', br_not, impl_CellsOk_eq cells (by omega) hK, bnd_some', br_not, impl_within_eq, bnd_some', br_not]
  simp only
  cases treeOk ls ns
  · rfl
  cases agesOk ages
  · rfl
  cases hc : cellsOk cells
  · rfl
  cases inR next 1 61
  · rfl
  simp only [br_true, Bool.true_and]
  refine (loop_ix (fun j (_ : Unit) => (next, vols, cells, ages, ns, ls, ages, (j : Int), (ages.length : Int), ())) ages.length (fun _ _ => True) (fun j _ => some ((ages.drop j).all (fun a => !decide (a.id ≥ next)) && (volsOk ages vols && keysFit ages cells (treeKeys ns)), ())) ?_ ?_ (Nat.zero_le _) (by omega) (j0 := 0) (a0 := ()) trivial).trans rfl
  · intro rec j _ hj _ hrec
    have hr := hrec () trivial
    simp only [Int.ofNat_lt, hj, decide_true, decide_false, br_true, br_false, br_not, bnd_some', joinK_eq, inK_nat hj, idxK_get hj, wr_succ (show j < 9223372036854775807 by omega), key_eta, hr]
    rw [drop_cons hj, List.all_cons]
    cases decide (ages[j].id ≥ next) <;> rfl
  · intro rec _ _
    simp only [Int.ofNat_lt, Nat.lt_irrefl, decide_true, decide_false, br_true, br_false, br_not, bnd_some', joinK_eq, List.drop_length, key_eta, impl_volsOk_eq ls ns ages cells vols next hB hK, impl_keysFit_eq ls ns ages cells vols next hB (cellsOk_length hc) hK, List.all_nil, Bool.true_and]
    cases volsOk ages vols <;> rfl
theorem spec_PoolOk_eq (ls : List Int) (ns : List Node) (ages : List Age) (cells : List Cell) (vols : List Vol) (next : Int) (h : PB ls ns ages cells vols) (hK : 2147483648 ≤ K) :
    spec_PoolOk K ls ns ages cells vols next = some (poolOk ⟨ls, ns, ages, cells, vols, next⟩, ()) := by
  have hB := h
  obtain ⟨ht, ha, hcl, hv, -⟩ := h
  unfold spec_PoolOk poolOk
  refine (loop_ix (fun j (_ : Unit) => (next, vols, cells, ages, ns, ls, (j : Int), ())) ages.length (fun _ _ => True) (fun j _ => some (treeOk ls ns && (agesOk ages && (cellsOk cells && (inR next 1 61 && ((ages.drop j).all (fun a => !decide (a.id ≥ next)) && (volsOk ages vols && keysFit ages cells (treeKeys ns)))))), ())) ?_ ?_ (Nat.zero_le _) (by omega) (j0 := 0) (a0 := ()) trivial).trans rfl
  · intro rec j _ hj _ hrec
    have hr := hrec () trivial
    simp only [Int.ofNat_lt, hj, decide_true, decide_false, br_true, br_false, br_not, bnd_some', joinK_eq, inK_nat hj, idxK_get hj, wr_succ (show j < 9223372036854775807 by omega), key_eta, hr]
    rw [drop_cons hj, List.all_cons]
    cases decide (ages[j].id ≥ next)
    · rfl
    · simp
  · intro rec _ _
    simp only [Int.ofNat_lt, Nat.lt_irrefl, decide_true, decide_false, br_true, br_false, br_not, bnd_some', joinK_eq, List.drop_length, key_eta, spec_TreeOk_eq ls ns ht hK, spec_AgesOk_eq ages (by omega) hK, spec_CellsOk_eq cells (by omega) hK, spec_l1In_eq, spec_l10Vols_eq ls ns ages cells vols next hB hK, spec_l10Keys_eq ls ns ages cells vols next hB hK, List.all_nil, Bool.true_and]
    cases treeOk ls ns
    · rfl
    cases agesOk ages
    · rfl
    cases cellsOk cells
    · rfl
    cases inR next 1 61
    · rfl
    cases volsOk ages vols <;> rfl
theorem impl_copyPool_eq (ls : List Int) (ns : List Node) (ages : List Age) (cells : List Cell) (vols : List Vol) (next : Int) (h : PB ls ns ages cells vols) (hK : 2147483648 ≤ K) :
    impl_copyPool K ls ns ages cells vols next = some (ls, ns, ages, cells, vols, next, ()) := by
  obtain ⟨ht, ha, hcl, hv, -⟩ := h
  unfold impl_copyPool
  rw [impl_copyTree_eq ls ns ht hK, bnd_some', impl_copyAges_eq ages (by omega), bnd_some', impl_copyCells_eq cells (by omega), bnd_some', appK_ok (by simp; omega)]
  rfl
theorem spec_l10Copy_eq (ls : List Int) (ns : List Node) (ages : List Age) (cells : List Cell) (vols : List Vol) (next : Int) (h : PB ls ns ages cells vols) (hK : 2147483648 ≤ K) :
    spec_l10Copy K ls ns ages cells vols next = some (ls, ns, ages, cells, vols, next, ()) := by
  obtain ⟨ht, ha, hcl, hv, -⟩ := h
  unfold spec_l10Copy
  rw [spec_l6Copy_eq ls ns ht hK, bnd_some', appK_ok (by simp; omega), spec_l9Copy_eq cells (by omega), bnd_some', appK_ok (by simp; omega)]
  rfl
theorem poolOk_pb {p : Pool} (h : poolOk p = true) : PB p.ls p.ns p.ages p.cells p.vols ∧ p.ages.length ≤ 16 ∧ p.cells.length = 24 ∧ p.vols.length ≤ 6 ∧ p.ns.length ≤ 20 ∧ TreeGood p.ls p.ns ∧ 1 ≤ p.next ∧ p.next ≤ 61 := by
  unfold poolOk at h
  simp only [Bool.and_eq_true] at h
  obtain ⟨h1, h2, h3, h4, h5, h6, h7⟩ := h
  have g := treeOk_iff.1 h1
  have hc := cellsOk_length h3
  unfold agesOk at h2
  unfold volsOk at h6
  unfold inR at h4
  simp only [Bool.and_eq_true, decide_eq_true_eq, List.all_eq_true] at h2 h6 h4
  refine ⟨⟨g.tb, by omega, by omega, by omega, ?_⟩, by omega, by omega, by omega, g.le, g, h4.1, h4.2⟩
  intro v hv
  obtain ⟨i, hi, rfl⟩ := List.getElem_of_mem hv
  have := h6.1 i (by rw [List.mem_range'_1]; omega)
  unfold volsOkAt at this
  rw [List.getElem?_eq_getElem hi] at this
  simp only [Bool.and_eq_true] at this
  have hn := this.1
  unfold nameOk inR at hn
  simp only [Bool.and_eq_true, decide_eq_true_eq] at hn
  omega
end
end Go.Proofs.Fw.R1
set_option linter.unusedVariables false
set_option linter.unusedSimpArgs false
namespace Go.Proofs.Fw.R1
open Go.Proofs.Fw
def keysOf (ns : List Node) (b : Int) : List Key := (treeKeys ns).filter fun k => decide (k.blk = b)
def hasI (l : List Int) (x : Int) : Bool := l.any fun y => decide (y = x)
theorem keysOf_length (ns : List Node) (b : Int) : (keysOf ns b).length ≤ ttotal ns := by
  have h1 := treeKeys_length ns
  have h2 := List.length_filter_le (fun k : Key => decide (k.blk = b)) (treeKeys ns)
  unfold keysOf
  omega
def nearStep (path : List Int) (o : Option Key) (k : Key) : Option Key :=
  if hasI path k.age then (match o with
    | none => some k
    | some b => if k.age > b.age then some k else some b) else o
def near (ks : List Key) (path : List Int) : Option Key := ks.foldl (nearStep path) none
def keyZ : Option Key → Key
  | some k => k
  | none => ⟨0, 0, 0, 0, 0⟩
theorem keyRes_z (o : Option Key) : keyRes o = ((keyZ o).blk, (keyZ o).age, (keyZ o).kind, (keyZ o).cell, (keyZ o).gen, o.isSome, ()) := by cases o <;> rfl
section
variable {K : Nat}
theorem spec_KeysOf_eq (ls : List Int) (ns : List Node) (b : Int) (h : TB ls ns) (hK : 2147483648 ≤ K) : spec_KeysOf K ls ns b = some (keysOf ns b, ()) := by
  have hkl := treeKeys_length ns
  have htt := h.2.2.1
  unfold spec_KeysOf keysOf
  rw [spec_TreeKeys_eq ls ns h hK, bnd_some']
  simp only
  generalize treeKeys ns = ks at *
  refine (loop_ix (fun j (a : List Key) => (a, b, ks, (j : Int), ())) ks.length (fun j a => a.length ≤ j) (fun j a => some (a ++ (ks.drop j).filter (fun k => decide (k.blk = b)), ())) ?_ ?_ (Nat.zero_le _) (by omega) (j0 := 0) (a0 := []) (by simp)).trans rfl
  · intro rec j a hj hi hrec
    simp only [Int.ofNat_lt, hj, decide_true, decide_false, br_true, br_false, br_not, bnd_some', joinK_eq, inK_nat hj, idxK_get hj, wr_succ (show j < 9223372036854775807 by omega), key_eta]
    rw [drop_cons hj, List.filter_cons]
    cases decide (ks[j].blk = b)
    · simp only [br_false, Bool.false_eq_true, if_false]; exact hrec _ (by omega)
    · simp only [br_true, if_true]
      rw [appK_ok (by simp; omega), hrec _ (by simp; omega)]
      simp
  · intro rec a hi
    simp only [Int.ofNat_lt, Nat.lt_irrefl, decide_true, decide_false, br_true, br_false, br_not, bnd_some', joinK_eq, List.drop_length, key_eta]
    simp
theorem impl_KeysOf_eq (ls : List Int) (ns : List Node) (b : Int) (h : TB ls ns) (hK : 2147483648 ≤ K) : impl_KeysOf K ls ns b = some (keysOf ns b, ()) := by
  have hkl := treeKeys_length ns
  have htt := h.2.2.1
  unfold impl_KeysOf keysOf
  rw [impl_TreeKeys_eq ls ns h hK, bnd_some']
  simp only
  generalize treeKeys ns = ks at *
  refine (loop_ix (fun j (a : List Key) => (a, ks, b, (j : Int), (ks.length : Int), ())) ks.length (fun j a => a.length ≤ j) (fun j a => some (a ++ (ks.drop j).filter (fun k => decide (k.blk = b)), ())) ?_ ?_ (Nat.zero_le _) (by omega) (j0 := 0) (a0 := []) (by simp)).trans rfl
  · intro rec j a hj hi hrec
    simp only [Int.ofNat_lt, hj, decide_true, decide_false, br_true, br_false, br_not, bnd_some', joinK_eq, inK_nat hj, idxK_get hj, wr_succ (show j < 9223372036854775807 by omega), key_eta]
    rw [drop_cons hj, List.filter_cons]
    cases decide (ks[j].blk = b)
    · simp only [br_false, Bool.false_eq_true, if_false]; exact hrec _ (by omega)
    · simp only [br_true, if_true]
      rw [appK_ok (by simp; omega), hrec _ (by simp; omega)]
      simp
  · intro rec a hi
    simp only [Int.ofNat_lt, Nat.lt_irrefl, decide_true, decide_false, br_true, br_false, br_not, bnd_some', joinK_eq, List.drop_length, key_eta]
    simp
theorem spec_l7Has_eq (l : List Int) (x : Int) (h : l.length ≤ 1073741824) (hK : 2147483648 ≤ K) : spec_l7Has K l x = some (hasI l x, ()) := by
  unfold spec_l7Has hasI
  refine (loop_ix (fun j (_ : Unit) => (l, x, (j : Int), ())) l.length (fun _ _ => True) (fun j _ => some ((l.drop j).any (fun y => decide (y = x)), ())) ?_ ?_ (Nat.zero_le _) (by omega) (j0 := 0) (a0 := ()) trivial).trans rfl
  · intro rec j _ hj _ hrec
    have hr := hrec () trivial
    simp only [Int.ofNat_lt, hj, decide_true, decide_false, br_true, br_false, br_not, bnd_some', joinK_eq, inK_nat hj, idxK_get hj, wr_succ (show j < 9223372036854775807 by omega), key_eta, hr]
    rw [drop_cons hj, List.any_cons]
    cases decide (l[j] = x) <;> rfl
  · intro rec _ _
    simp only [Int.ofNat_lt, Nat.lt_irrefl, decide_true, decide_false, br_true, br_false, br_not, bnd_some', joinK_eq, List.drop_length, key_eta]
    rfl
theorem intIdx_eq (l : List Int) (x : Int) (h : l.length ≤ 1073741824) (hK : 2147483648 ≤ K) : slices_Index__int_int K l x = some (pairRes (findI (fun y => decide (y = x)) l 0), ()) := by
  unfold slices_Index__int_int
  refine (loop_ix (fun j (_ : Unit) => (x, l, (j : Int), (l.length : Int), ())) l.length (fun _ _ => True) (fun j _ => some (pairRes (findI (fun y => decide (y = x)) (l.drop j) j), ())) ?_ ?_ (Nat.zero_le _) (by omega) (j0 := 0) (a0 := ()) trivial).trans rfl
  · intro rec j _ hj _ hrec
    have hr := hrec () trivial
    simp only [Int.ofNat_lt, hj, decide_true, decide_false, br_true, br_false, br_not, bnd_some', joinK_eq, inK_nat hj, idxK_get hj, wr_succ (show j < 9223372036854775807 by omega), key_eta, hr]
    rw [drop_cons hj, findI_cons, show decide (x = l[j]) = decide (l[j] = x) from decide_eq_decide.2 ⟨Eq.symm, Eq.symm⟩]
    cases decide (l[j] = x) <;> rfl
  · intro rec _ _
    simp only [Int.ofNat_lt, Nat.lt_irrefl, decide_true, decide_false, br_true, br_false, br_not, bnd_some', joinK_eq, List.drop_length, key_eta]
    rfl
theorem intHas_eq (l : List Int) (x : Int) (h : l.length ≤ 1073741824) (hK : 2147483648 ≤ K) : slices_Contains__int_int K l x = some (hasI l x, ()) := by
  unfold slices_Contains__int_int
  rw [intIdx_eq l x h hK, bnd_some']
  simp only
  rw [pairRes_ge, findI_any]
  rfl
theorem spec_l8Near_eq (ls : List Int) (ns : List Node) (b : Int) (path : List Int) (h : TB ls ns) (hp : path.length ≤ 1073741824) (hK : 2147483648 ≤ K) : spec_l8Near K ls ns b path = some (keyRes (near (keysOf ns b) path)) := by
  have hkl := keysOf_length ns b
  have htt := h.2.2.1
  unfold spec_l8Near near
  rw [spec_KeysOf_eq ls ns b h hK, bnd_some']
  simp only
  generalize keysOf ns b = ks at *
  refine (loop_ix (fun j (o : Option Key) => (0, 0, 0, 0, 0, (keyZ o).gen, (keyZ o).cell, (keyZ o).kind, (keyZ o).age, (keyZ o).blk, o.isSome, path, ks, (j : Int), ())) ks.length (fun _ _ => True) (fun j o => some (keyRes ((ks.drop j).foldl (nearStep path) o))) ?_ ?_ (Nat.zero_le _) (by omega) (j0 := 0) (a0 := none) trivial).trans rfl
  · intro rec j o hj _ hrec
    simp only [Int.ofNat_lt, hj, decide_true, decide_false, br_true, br_false, br_not, bnd_some', joinK_eq, inK_nat hj, idxK_get hj, wr_succ (show j < 9223372036854775807 by omega), key_eta, spec_l7Has_eq path ks[j].age hp hK]
    rw [drop_cons hj, List.foldl_cons]
    unfold nearStep
    cases hh : hasI path ks[j].age
    · exact hrec o trivial
    · cases o with
      | none => exact hrec (some ks[j]) trivial
      | some w =>
        by_cases hw : ks[j].age > w.age
        · simp only [keyZ, Option.isSome_some, br_true, br_false, hw, decide_true, if_true]; exact hrec (some ks[j]) trivial
        · simp only [keyZ, Option.isSome_some, br_true, br_false, hw, decide_false, if_true, if_false]; exact hrec (some w) trivial
  · intro rec o _
    simp only [Int.ofNat_lt, Nat.lt_irrefl, decide_true, decide_false, br_true, br_false, br_not, bnd_some', joinK_eq, List.drop_length, key_eta]
    rw [keyRes_z]; rfl
theorem impl_seenOn_eq (ls : List Int) (ns : List Node) (b : Int) (path : List Int) (h : TB ls ns) (hp : path.length ≤ 1073741824) (hK : 2147483648 ≤ K) : impl_seenOn K ls ns b path = some (keyRes (near (keysOf ns b) path)) := by
  have hkl := keysOf_length ns b
  have htt := h.2.2.1
  unfold impl_seenOn near
  rw [impl_KeysOf_eq ls ns b h hK, bnd_some']
  simp only
  generalize keysOf ns b = ks at *
  refine (loop_ix (fun j (o : Option Key) => (0, 0, 0, 0, 0, (keyZ o).gen, (keyZ o).cell, (keyZ o).kind, (keyZ o).age, (keyZ o).blk, o.isSome, ks, path, (j : Int), (ks.length : Int), ())) ks.length (fun _ _ => True) (fun j o => some (keyRes ((ks.drop j).foldl (nearStep path) o))) ?_ ?_ (Nat.zero_le _) (by omega) (j0 := 0) (a0 := none) trivial).trans rfl
  · intro rec j o hj _ hrec
    simp only [Int.ofNat_lt, hj, decide_true, decide_false, br_true, br_false, br_not, bnd_some', joinK_eq, inK_nat hj, idxK_get hj, wr_succ (show j < 9223372036854775807 by omega), key_eta, intHas_eq path ks[j].age hp hK]
    rw [drop_cons hj, List.foldl_cons]
    unfold nearStep
    cases hh : hasI path ks[j].age
    · exact hrec o trivial
    · cases o with
      | none => exact hrec (some ks[j]) trivial
      | some w =>
        by_cases hw : ks[j].age > w.age
        · simp only [keyZ, Option.isSome_some, br_true, br_false, hw, decide_true, if_true]; exact hrec (some ks[j]) trivial
        · simp only [keyZ, Option.isSome_some, br_true, br_false, hw, decide_false, if_true, if_false]; exact hrec (some w) trivial
  · intro rec o _
    simp only [Int.ofNat_lt, Nat.lt_irrefl, decide_true, decide_false, br_true, br_false, br_not, bnd_some', joinK_eq, List.drop_length, key_eta]
    rw [keyRes_z]; rfl
def seen (ns : List Node) (ages : List Age) (b a : Int) : Option Key := near (keysOf ns b) (pathOf ages a)
def seenAbove (ns : List Node) (ages : List Age) (b a : Int) : Option Key := near (keysOf ns b) ((pathOf ages a).drop 1)
theorem pathOf_length (ages : List Age) (a : Int) : (pathOf ages a).length ≤ ages.length + 1 := pathN_length _ _ _
theorem spec_Seen_eq (ls : List Int) (ns : List Node) (ages : List Age) (b a : Int) (h : TB ls ns) (ha : ages.length ≤ 67108864) (hK : 2147483648 ≤ K) : spec_Seen K ls ns ages b a = some (keyRes (seen ns ages b a)) := by
  have := pathOf_length ages a
  unfold spec_Seen seen
  rw [spec_PathOf_eq ages a (by omega) hK, bnd_some', spec_l8Near_eq ls ns b _ h (by simp only; omega) hK]
  rfl
theorem impl_Seen_eq (ls : List Int) (ns : List Node) (ages : List Age) (b a : Int) (h : TB ls ns) (ha : ages.length ≤ 67108864) (hK : 2147483648 ≤ K) : impl_Seen K ls ns ages b a = some (keyRes (seen ns ages b a)) := by
  have := pathOf_length ages a
  unfold impl_Seen seen
  rw [impl_PathOf_eq ages a (by omega) hK, bnd_some', impl_seenOn_eq ls ns b _ h (by simp only; omega) hK]
  rfl
theorem near_nil (ks : List Key) : near ks [] = none := by
  unfold near
  have : ∀ (l : List Key) (o : Option Key), l.foldl (nearStep []) o = o := by
    intro l
    induction l with
    | nil => intro o; rfl
    | cons x r ih => intro o; exact ih o
  exact this ks none
theorem spec_SeenAbove_eq (ls : List Int) (ns : List Node) (ages : List Age) (b a : Int) (h : TB ls ns) (ha : ages.length ≤ 67108864) (hK : 2147483648 ≤ K) : spec_SeenAbove K ls ns ages b a = some (keyRes (seenAbove ns ages b a)) := by
  have hl := pathOf_length ages a
  unfold spec_SeenAbove seenAbove
  rw [spec_PathOf_eq ages a (by omega) hK, bnd_some']
  simp only
  generalize pathOf ages a = p at *
  rw [dec_eq0]
  by_cases h0 : p.length = 0
  · rw [decide_eq_true h0, br_true]
    rw [List.drop_eq_nil_of_le (by omega), near_nil]; rfl
  · rw [decide_eq_false h0, br_false, show (1 : Int) = ((1 : Nat) : Int) from rfl, subK_end (by omega), spec_l8Near_eq ls ns b _ h (by simp; omega) hK]
    rfl
theorem impl_SeenAbove_eq (ls : List Int) (ns : List Node) (ages : List Age) (b a : Int) (h : TB ls ns) (ha : ages.length ≤ 67108864) (hK : 2147483648 ≤ K) : impl_SeenAbove K ls ns ages b a = some (keyRes (seenAbove ns ages b a)) := by
  have hl := pathOf_length ages a
  unfold impl_SeenAbove seenAbove
  rw [impl_PathOf_eq ages a (by omega) hK, bnd_some']
  simp only
  generalize pathOf ages a = p at *
  by_cases h0 : p.length = 0
  · rw [show min (1 : Int) (p.length : Int) = ((0 : Nat) : Int) by omega, subK_end (by omega), impl_seenOn_eq ls ns b _ h (by simp; omega) hK]
    rw [List.drop_eq_nil_of_le (by omega), List.drop_eq_nil_of_le (by omega)]; rfl
  · rw [show min (1 : Int) (p.length : Int) = ((1 : Nat) : Int) by omega, subK_end (by omega), impl_seenOn_eq ls ns b _ h (by simp; omega) hK]
    rfl
def sees (ns : List Node) (ages : List Age) (k : Key) (a : Int) : Bool := match seen ns ages k.blk a with
  | some x => decide (x.age = k.age)
  | none => false
def seenByAny (p : Pool) (k : Key) : Bool := p.vols.any fun v => decide (v.size > k.blk) && sees p.ns p.ages k v.age
def idle (vols : List Vol) (a : Int) : Bool := vols.all fun v => !decide (v.age = a)
def kidAge (p : Pool) (a : Int) : Int := if idle p.vols a then match kidsOf p.ages a with
  | [x] => x
  | _ => 0 else 0
theorem spec_Sees_eq (ls : List Int) (ns : List Node) (ages : List Age) (k : Key) (a : Int) (h : TB ls ns) (ha : ages.length ≤ 67108864) (hK : 2147483648 ≤ K) :
    spec_Sees K ls ns ages k.blk k.age k.kind k.cell k.gen a = some (sees ns ages k a, ()) := by
  unfold spec_Sees sees
  rw [spec_Seen_eq ls ns ages k.blk a h ha hK, bnd_some']
  cases seen ns ages k.blk a <;> rfl
theorem spec_SeenByAny_eq (ls : List Int) (ns : List Node) (ages : List Age) (cells : List Cell) (vols : List Vol) (next : Int) (k : Key) (h : PB ls ns ages cells vols) (hK : 2147483648 ≤ K) :
    spec_SeenByAny K ls ns ages cells vols next k.blk k.age k.kind k.cell k.gen = some (seenByAny ⟨ls, ns, ages, cells, vols, next⟩ k, ()) := by
  obtain ⟨ht, ha, hcl, hv, -⟩ := h
  unfold spec_SeenByAny seenByAny
  refine (loop_ix (fun j (_ : Unit) => (k.gen, k.cell, k.kind, k.age, k.blk, next, vols, cells, ages, ns, ls, (j : Int), ())) vols.length (fun _ _ => True) (fun j _ => some ((vols.drop j).any (fun v => decide (v.size > k.blk) && sees ns ages k v.age), ())) ?_ ?_ (Nat.zero_le _) (by omega) (j0 := 0) (a0 := ()) trivial).trans rfl
  · intro rec j _ hj _ hrec
    have hr := hrec () trivial
    simp only [Int.ofNat_lt, hj, decide_true, decide_false, br_true, br_false, br_not, bnd_some', joinK_eq, inK_nat hj, idxK_get hj, wr_succ (show j < 9223372036854775807 by omega), key_eta, spec_Sees_eq ls ns ages k vols[j].age ht ha hK, hr]
    rw [drop_cons hj, List.any_cons]
    cases decide (vols[j].size > k.blk)
    · rfl
    · cases sees ns ages k vols[j].age <;> rfl
  · intro rec _ _
    simp only [Int.ofNat_lt, Nat.lt_irrefl, decide_true, decide_false, br_true, br_false, br_not, bnd_some', joinK_eq, List.drop_length, key_eta]
    rfl
theorem spec_Idle_eq (ls : List Int) (ns : List Node) (ages : List Age) (cells : List Cell) (vols : List Vol) (next a : Int) (h : vols.length ≤ 67108864) (hK : 2147483648 ≤ K) :
    spec_Idle K ls ns ages cells vols next a = some (idle vols a, ()) := by
  unfold spec_Idle idle
  refine (loop_ix (fun j (_ : Unit) => (next, vols, cells, ages, ns, ls, a, (j : Int), ())) vols.length (fun _ _ => True) (fun j _ => some ((vols.drop j).all (fun v => !decide (v.age = a)), ())) ?_ ?_ (Nat.zero_le _) (by omega) (j0 := 0) (a0 := ()) trivial).trans rfl
  · intro rec j _ hj _ hrec
    have hr := hrec () trivial
    simp only [Int.ofNat_lt, hj, decide_true, decide_false, br_true, br_false, br_not, bnd_some', joinK_eq, inK_nat hj, idxK_get hj, wr_succ (show j < 9223372036854775807 by omega), key_eta, hr]
    rw [drop_cons hj, List.all_cons]
    cases decide (vols[j].age = a) <;> rfl
  · intro rec _ _
    simp only [Int.ofNat_lt, Nat.lt_irrefl, decide_true, decide_false, br_true, br_false, br_not, bnd_some', joinK_eq, List.drop_length, key_eta]
    rfl
theorem spec_l13Kid_eq (ls : List Int) (ns : List Node) (ages : List Age) (cells : List Cell) (vols : List Vol) (next a : Int) (h : PB ls ns ages cells vols) (hK : 2147483648 ≤ K) :
    spec_l13Kid K ls ns ages cells vols next a = some (kidAge ⟨ls, ns, ages, cells, vols, next⟩ a, ()) := by
  obtain ⟨ht, ha, hcl, hv, -⟩ := h
  unfold spec_l13Kid kidAge
  rw [spec_KidsOf_eq ages a (by omega) hK, bnd_some', spec_Idle_eq ls ns ages cells vols next a hv hK, bnd_some', br_not]
  simp only
  cases idle vols a
  · rfl
  · rw [br_true, if_pos rfl]
    cases hk : kidsOf ages a with
    | nil => rfl
    | cons x r =>
      cases r with
      | nil => rfl
      | cons y r =>
        rw [decide_eq_true (by simp only [List.length_cons]; omega), br_true]
def moves (p : Pool) (k : Key) : Bool := !decide (kidAge p k.age = 0) && (treeAt p.ls p.ns k.blk (kidAge p k.age)).isNone
def goes (p : Pool) (kind : Int) (k : Key) : Bool :=
  if kind = 1 then !seenByAny p k else if kind = 2 then decide (k.kind = 2) && (seenAbove p.ns p.ages k.blk k.age).isNone else moves p k
def ageGoes (p : Pool) (a : Int) : Bool := (treeKeys p.ns).all (fun k => !decide (k.age = a)) && (idle p.vols a && decide ((kidsOf p.ages a).length ≤ 1))
theorem spec_l13Move_eq (ls : List Int) (ns : List Node) (ages : List Age) (cells : List Cell) (vols : List Vol) (next : Int) (k : Key) (h : PB ls ns ages cells vols) (hK : 2147483648 ≤ K) :
    spec_l13Move K ls ns ages cells vols next k.blk k.age k.kind k.cell k.gen = some (moves ⟨ls, ns, ages, cells, vols, next⟩ k, ()) := by
  unfold spec_l13Move moves
  rw [spec_l13Kid_eq ls ns ages cells vols next k.age h hK, bnd_some']
  simp only
  rw [spec_TreeAt_eq ls ns k.blk _ h.tree hK, bnd_some']
  cases decide (kidAge ⟨ls, ns, ages, cells, vols, next⟩ k.age = 0)
  · cases treeAt ls ns k.blk (kidAge ⟨ls, ns, ages, cells, vols, next⟩ k.age) <;> rfl
  · rfl
theorem spec_l13Key_eq (ls : List Int) (ns : List Node) (ages : List Age) (cells : List Cell) (vols : List Vol) (next kind : Int) (k : Key) (h : PB ls ns ages cells vols) (hK : 2147483648 ≤ K) :
    spec_l13Key K ls ns ages cells vols next kind k.blk k.age k.kind k.cell k.gen = some (goes ⟨ls, ns, ages, cells, vols, next⟩ kind k, ()) := by
  unfold spec_l13Key goes
  rw [spec_SeenByAny_eq ls ns ages cells vols next k h hK, bnd_some', spec_SeenAbove_eq ls ns ages k.blk k.age h.tree h.agesB hK, bnd_some', spec_l13Move_eq ls ns ages cells vols next k h hK, bnd_some', br_dec, br_dec]
  split
  · rfl
  · split
    · cases seenAbove ns ages k.blk k.age <;> cases decide (k.kind = 2) <;> rfl
    · rfl
theorem spec_l13Age_eq (ls : List Int) (ns : List Node) (ages : List Age) (cells : List Cell) (vols : List Vol) (next a : Int) (h : PB ls ns ages cells vols) (hK : 2147483648 ≤ K) :
    spec_l13Age K ls ns ages cells vols next a = some (ageGoes ⟨ls, ns, ages, cells, vols, next⟩ a, ()) := by
  obtain ⟨ht, ha, hcl, hv, -⟩ := h
  have hkl := treeKeys_length ns
  have htt := ht.2.2.1
  have hkd := kidsOf_length ages a
  unfold spec_l13Age ageGoes
  rw [spec_TreeKeys_eq ls ns ht hK, bnd_some']
  simp only
  generalize treeKeys ns = ks at *
  refine (loop_ix (fun j (_ : Unit) => (next, vols, cells, ages, ns, ls, a, ks, (j : Int), ())) ks.length (fun _ _ => True) (fun j _ => some ((ks.drop j).all (fun k => !decide (k.age = a)) && (idle vols a && decide ((kidsOf ages a).length ≤ 1)), ())) ?_ ?_ (Nat.zero_le _) (by omega) (j0 := 0) (a0 := ()) trivial).trans rfl
  · intro rec j _ hj _ hrec
    have hr := hrec () trivial
    simp only [Int.ofNat_lt, hj, decide_true, decide_false, br_true, br_false, br_not, bnd_some', joinK_eq, inK_nat hj, idxK_get hj, wr_succ (show j < 9223372036854775807 by omega), key_eta, hr]
    rw [drop_cons hj, List.all_cons]
    cases decide (ks[j].age = a) <;> rfl
  · intro rec _ _
    simp only [Int.ofNat_lt, Nat.lt_irrefl, decide_true, decide_false, br_true, br_false, br_not, bnd_some', joinK_eq, List.drop_length, key_eta, spec_Idle_eq ls ns ages cells vols next a hv hK, spec_KidsOf_eq ages a (show ages.length ≤ 1073741824 by omega) hK, List.all_nil, Bool.true_and]
    have e := dec_le (kidsOf ages a).length 1
    rw [← e]
    cases idle vols a <;> rfl
def stepKinds (p : Pool) : Nat → Int → Option (Int × Nat)
  | 0, _ => none
  | m + 1, kind => match findI (goes p kind) (treeKeys p.ns) 0 with
    | some j => some (kind, j)
    | none => stepKinds p m (kind + 1)
def nextStep (p : Pool) : Int × Nat := if poolOk p then match stepKinds p 3 1 with
  | some r => r
  | none => match findI (fun a => ageGoes p a.id) p.ages 0 with
    | some j => (4, j)
    | none => (0, 0) else (0, 0)
theorem spec_NextStep_eq (ls : List Int) (ns : List Node) (ages : List Age) (cells : List Cell) (vols : List Vol) (next : Int) (h : PB ls ns ages cells vols) (hK : 2147483648 ≤ K) :
    spec_NextStep K ls ns ages cells vols next = some ((nextStep ⟨ls, ns, ages, cells, vols, next⟩).1, ((nextStep ⟨ls, ns, ages, cells, vols, next⟩).2 : Int), ()) := by
  have hB := h
  obtain ⟨ht, ha, hcl, hv, -⟩ := h
  have hkl := treeKeys_length ns
  have htt := ht.2.2.1
  unfold spec_NextStep nextStep
  rw [spec_PoolOk_eq ls ns ages cells vols next hB hK, bnd_some', br_not, spec_TreeKeys_eq ls ns ht hK, bnd_some']
  simp only
  cases poolOk ⟨ls, ns, ages, cells, vols, next⟩
  · rfl
  rw [br_true, if_pos rfl]
  have agesLoop : loopFix K (fun r9 (s8 : Int × List (Vol) × List (Cell) × List (Age) × List (Node) × List (Int) × Int × Unit) =>
     br (decide (s8.2.2.2.2.2.2.1 < (List.length s8.2.2.2.1 : Int))) (
      inK s8.2.2.2.1 s8.2.2.2.2.2.2.1 <|
      idxK s8.2.2.2.1 s8.2.2.2.2.2.2.1 fun x10 =>
      bnd (spec_l13Age K s8.2.2.2.2.2.1 s8.2.2.2.2.1 s8.2.2.2.1 s8.2.2.1 s8.2.1 s8.1 x10.id) fun y11 =>
      br y11.1 (
       some ((4:Int), s8.2.2.2.2.2.2.1, ())) (
       r9 (s8.1, s8.2.1, s8.2.2.1, s8.2.2.2.1, s8.2.2.2.2.1, s8.2.2.2.2.2.1, (wr (s8.2.2.2.2.2.2.1 + (1:Int))), ()))) (
      some ((0:Int), (0:Int), ()))) (next, vols, cells, ages, ns, ls, (0:Int), ()) =
      some ((match findI (fun a => ageGoes ⟨ls, ns, ages, cells, vols, next⟩ a.id) ages 0 with | some j => (4, j) | none => (0, 0) : Int × Nat).1, ((match findI (fun a => ageGoes ⟨ls, ns, ages, cells, vols, next⟩ a.id) ages 0 with | some j => (4, j) | none => (0, 0) : Int × Nat).2 : Int), ()) := by
    refine (loop_ix (fun j (_ : Unit) => (next, vols, cells, ages, ns, ls, (j : Int), ())) ages.length (fun _ _ => True) (fun j _ => some ((match findI (fun a => ageGoes ⟨ls, ns, ages, cells, vols, next⟩ a.id) (ages.drop j) j with | some j => (4, j) | none => (0, 0) : Int × Nat).1, ((match findI (fun a => ageGoes ⟨ls, ns, ages, cells, vols, next⟩ a.id) (ages.drop j) j with | some j => (4, j) | none => (0, 0) : Int × Nat).2 : Int), ())) ?_ ?_ (Nat.zero_le _) (by omega) (j0 := 0) (a0 := ()) trivial).trans rfl
    · intro rec j _ hj _ hrec
      have hr := hrec () trivial
      simp only [Int.ofNat_lt, hj, decide_true, decide_false, br_true, br_false, br_not, bnd_some', joinK_eq, inK_nat hj, idxK_get hj, wr_succ (show j < 9223372036854775807 by omega), key_eta, spec_l13Age_eq ls ns ages cells vols next ages[j].id hB hK]
      rw [drop_cons hj, findI_cons]
      cases ageGoes ⟨ls, ns, ages, cells, vols, next⟩ ages[j].id
      · exact hr
      · rfl
    · intro rec _ _
      simp only [Int.ofNat_lt, Nat.lt_irrefl, decide_true, decide_false, br_true, br_false, br_not, bnd_some', joinK_eq, List.drop_length, key_eta]
      rfl
  generalize hG : (match stepKinds ⟨ls, ns, ages, cells, vols, next⟩ 3 1 with | some r => r | none => match findI (fun a => ageGoes ⟨ls, ns, ages, cells, vols, next⟩ a.id) ages 0 with | some j => (4, j) | none => (0, 0) : Int × Nat) = G
  refine (loop_ix (fun j (_ : Unit) => (next, vols, cells, ages, ns, ls, (1 + j : Int), treeKeys ns, ())) 3 (fun _ _ => True) (fun j _ => match stepKinds ⟨ls, ns, ages, cells, vols, next⟩ (3 - j) (1 + j) with
    | some r => some (r.1, (r.2 : Int), ())
    | none => some ((match findI (fun a => ageGoes ⟨ls, ns, ages, cells, vols, next⟩ a.id) ages 0 with | some j => (4, j) | none => (0, 0) : Int × Nat).1, ((match findI (fun a => ageGoes ⟨ls, ns, ages, cells, vols, next⟩ a.id) ages 0 with | some j => (4, j) | none => (0, 0) : Int × Nat).2 : Int), ())) ?_ ?_ (Nat.zero_le _) (by omega) (j0 := 0) (a0 := ()) trivial).trans ?_
  · intro rec j _ hj _ hrec
    have hr := hrec () trivial
    simp only
    rw [decide_eq_true (show (1 + j : Int) ≤ 3 by omega), br_true, show 3 - j = (3 - (j + 1)) + 1 by omega]
    unfold stepKinds
    simp only
    generalize hks : treeKeys ns = ks at *
    refine (loop_ix (fun m (_ : Unit) => (next, vols, cells, ages, ns, ls, ks, (1 + j : Int), (m : Int), ())) ks.length (fun _ _ => True) (fun m _ => match findI (goes ⟨ls, ns, ages, cells, vols, next⟩ (1 + j)) (ks.drop m) m with
      | some q => some ((1 + j : Int), (q : Int), ())
      | none => rec (next, vols, cells, ages, ns, ls, (1 + ((j + 1 : Nat) : Int)), ks, ())) ?_ ?_ (Nat.zero_le _) (by omega) (j0 := 0) (a0 := ()) trivial).trans ?_
    · intro rec2 m _ hm _ hrec2
      have hr2 := hrec2 () trivial
      simp only [Int.ofNat_lt, hm, decide_true, br_true, inK_nat hm, idxK_get hm, spec_l13Key_eq ls ns ages cells vols next (1 + j) ks[m] hB hK, bnd_some', wr_succ (show m < 9223372036854775807 by omega)]
      rw [drop_cons hm, findI_cons]
      cases goes ⟨ls, ns, ages, cells, vols, next⟩ (1 + j) ks[m]
      · exact hr2
      · rfl
    · intro rec2 _ _
      simp only [Int.ofNat_lt, Nat.lt_irrefl, decide_false, br_false, List.drop_length, findI]
      rw [show wr ((1 + j : Int) + 1) = 1 + ((j + 1 : Nat) : Int) by rw [show wr ((1 + j : Int) + 1) = (1 + j : Int) + 1 from wr_of (by omega) (by omega)]; omega]
    · rw [List.drop_zero, hr, show (1 + (j : Int)) + 1 = 1 + ((j + 1 : Nat) : Int) by omega]
      cases findI (goes ⟨ls, ns, ages, cells, vols, next⟩ (1 + j)) ks 0 <;> rfl
  · intro rec _ _
    simp only
    rw [decide_eq_false (by omega), br_false, agesLoop]
    rfl
  · rw [← hG]
    show (match stepKinds ⟨ls, ns, ages, cells, vols, next⟩ 3 (1 + 0) with | some r => _ | none => _) = _
    rw [show (1 + 0 : Int) = 1 from rfl]
    cases stepKinds ⟨ls, ns, ages, cells, vols, next⟩ 3 1 <;> rfl
end
end Go.Proofs.Fw.R1
set_option linter.unusedVariables false
set_option linter.unusedSimpArgs false
namespace Go.Proofs.Fw.R1
open Go.Proofs.Fw
abbrev PBp (p : Pool) : Prop := PB p.ls p.ns p.ages p.cells p.vols
abbrev PoolRes := List Int × List Node × List Age × List Cell × List Vol × Int × Int × Unit
def poolRes (r : Pool × Int) : PoolRes := (r.1.ls, r.1.ns, r.1.ages, r.1.cells, r.1.vols, r.1.next, r.2, ())
abbrev PoolResB := List Int × List Node × List Age × List Cell × List Vol × Int × Bool × Unit
def poolResB (r : Pool × Bool) : PoolResB := (r.1.ls, r.1.ns, r.1.ages, r.1.cells, r.1.vols, r.1.next, r.2, ())
theorem keyRes_some (k : Key) : keyRes (some k) = (k.blk, k.age, k.kind, k.cell, k.gen, true, ()) := rfl
theorem treePut_tb {ls : List Int} {ns : List Node} (k : Key) (h : TB ls ns) : TB (treePut ls ns k).1 (treePut ls ns k).2.1 := by
  unfold treePut
  split
  · split
    · exact h
    · split
      · simp only
        split
        · rename_i h1
          exact (treeOk_iff.1 h1).tb
        · exact h
      · exact h
  · exact h
def putKey (p : Pool) (k : Key) : Bool × Pool :=
  if (treePut p.ls p.ns k).2.2 then (true, { p with ls := (treePut p.ls p.ns k).1, ns := (treePut p.ls p.ns k).2.1, cells := match treeAt p.ls p.ns k.blk k.age with
    | some o => if o.kind = 1 then freeCell p.cells o.cell else p.cells
    | none => p.cells }) else (false, p)
theorem putKey_pb {p : Pool} (k : Key) (h : PBp p) : PBp (putKey p k).2 := by
  unfold putKey
  split
  · refine ⟨treePut_tb k h.tree, h.agesB, ?_, h.volsB, h.names⟩
    simp only
    split
    · split
      · rw [freeCell_length]; exact h.cellsB
      · exact h.cellsB
    · exact h.cellsB
  · exact h
section
variable {K : Nat}
theorem spec_l11Put_eq (ls : List Int) (ns : List Node) (ages : List Age) (cells : List Cell) (vols : List Vol) (next : Int) (k : Key) (h : TB ls ns) (hc : cells.length ≤ 67108864) (hK : 2147483648 ≤ K) :
    spec_l11Put K ls ns ages cells vols next k.blk k.age k.kind k.cell k.gen = some ((putKey ⟨ls, ns, ages, cells, vols, next⟩ k).1, (putKey ⟨ls, ns, ages, cells, vols, next⟩ k).2.ls, (putKey ⟨ls, ns, ages, cells, vols, next⟩ k).2.ns, (putKey ⟨ls, ns, ages, cells, vols, next⟩ k).2.cells, ()) := by
  unfold spec_l11Put putKey
  rw [spec_TreeAt_eq ls ns k.blk k.age h hK, bnd_some', spec_TreePut_eq ls ns k h hK, bnd_some', br_not]
  simp only
  cases (treePut ls ns k).2.2
  · rfl
  · rw [br_true, if_pos rfl]
    unfold spec_l11Drop
    cases treeAt ls ns k.blk k.age with
    | none => rfl
    | some o =>
      rw [keyRes_some]
      simp only [br_true]
      by_cases ho : o.kind = 1
      · rw [decide_eq_true ho, br_true, spec_FreeCell_eq cells _ (by omega) hK, if_pos ho]; rfl
      · rw [decide_eq_false ho, br_false, if_neg ho]; rfl
def endOp (p q : Pool) (ok : Bool) : Pool × Int := if ok then if poolOk q then (q, 0) else (p, 6) else (p, 6)
theorem spec_l11End_eq (ls : List Int) (ns : List Node) (ages : List Age) (cells : List Cell) (vols : List Vol) (next : Int) (ls' : List Int) (ns' : List Node) (ages' : List Age) (cells' : List Cell) (vols' : List Vol) (next' : Int) (ok : Bool)
    (h : PB ls ns ages cells vols) (h' : ok = true → PB ls' ns' ages' cells' vols') (hK : 2147483648 ≤ K) :
    spec_l11End_ro K ls ns ages cells vols next ls' ns' ages' cells' vols' next' ok = some (poolRes (endOp ⟨ls, ns, ages, cells, vols, next⟩ ⟨ls', ns', ages', cells', vols', next'⟩ ok)) := by
  unfold spec_l11End_ro endOp
  rw [spec_l10Copy_eq ls ns ages cells vols next h hK, bnd_some']
  cases ok
  · rfl
  · rw [spec_PoolOk_eq ls' ns' ages' cells' vols' next' (h' rfl) hK, bnd_some', br_not]
    cases poolOk ⟨ls', ns', ages', cells', vols', next'⟩ <;> rfl
theorem impl_settled_eq (ls : List Int) (ns : List Node) (ages : List Age) (cells : List Cell) (vols : List Vol) (next : Int) (ls' : List Int) (ns' : List Node) (ages' : List Age) (cells' : List Cell) (vols' : List Vol) (next' : Int) (ok : Bool)
    (h : PB ls ns ages cells vols) (h' : ok = true → PB ls' ns' ages' cells' vols') (hK : 2147483648 ≤ K) :
    impl_settled_ro K ls ns ages cells vols next ls' ns' ages' cells' vols' next' ok = some (poolRes (endOp ⟨ls, ns, ages, cells, vols, next⟩ ⟨ls', ns', ages', cells', vols', next'⟩ ok)) := by
  unfold impl_settled_ro endOp
  rw [impl_copyPool_eq ls ns ages cells vols next h hK, bnd_some']
  cases ok
  · rfl
  · rw [impl_PoolOk_eq ls' ns' ages' cells' vols' next' (h' rfl) hK, bnd_some', br_not]
    cases poolOk ⟨ls', ns', ages', cells', vols', next'⟩ <;> rfl
def formCode (p : Pool) (s : List Int) : Int := if poolOk p && nameOk s then 0 else 1
def volCode (p : Pool) (s : List Int) : Int := if formCode p s = 0 then if (volAt p.vols s).isSome then 0 else 2 else formCode p s
def blockCode (p : Pool) (s : List Int) (b : Int) : Int := if volCode p s = 0 then match volAt p.vols s with
  | some i => match p.vols[i]? with
    | some v => if v.fixed then 5 else if inR b 0 (wr (v.size - 1)) then 0 else 4
    | none => 0
  | none => 0 else volCode p s
theorem volAt_get {l : List Vol} {s : List Int} {i : Nat} (h : volAt l s = some i) : ∃ h : i < l.length, l[i].name = s := by
  obtain ⟨h1, h2, h3⟩ := findI_some h
  exact ⟨h2, of_decide_eq_true h3⟩
theorem formCode_zero {p : Pool} {s : List Int} (h : formCode p s = 0) : poolOk p = true ∧ nameOk s = true := by
  unfold formCode at h
  split at h
  · rename_i h1; simpa using h1
  · cases h
theorem volCode_zero {p : Pool} {s : List Int} (h : volCode p s = 0) : poolOk p = true ∧ nameOk s = true ∧ ∃ i, volAt p.vols s = some i ∧ i < p.vols.length := by
  unfold volCode at h
  split at h
  · rename_i h1
    have h2 := formCode_zero h1
    split at h
    · rename_i h3
      obtain ⟨i, hi⟩ := Option.isSome_iff_exists.1 h3
      exact ⟨h2.1, h2.2, i, hi, (volAt_get hi).1⟩
    · cases h
  · rename_i h1; exact absurd h h1
theorem blockCode_zero {p : Pool} {s : List Int} {b : Int} (h : blockCode p s b = 0) : volCode p s = 0 := by
  unfold blockCode at h
  split at h
  · assumption
  · exact h
theorem spec_l11Form_eq (ls : List Int) (ns : List Node) (ages : List Age) (cells : List Cell) (vols : List Vol) (next : Int) (s : List Int) (h : PB ls ns ages cells vols) (hs : s.length ≤ 1073741824) (hK : 2147483648 ≤ K) :
    spec_l11Form K ls ns ages cells vols next s = some (formCode ⟨ls, ns, ages, cells, vols, next⟩ s, ()) := by
  unfold spec_l11Form formCode
  rw [spec_PoolOk_eq ls ns ages cells vols next h hK, bnd_some', br_not, spec_NameOk_eq s hs hK, bnd_some', br_not]
  simp only
  cases poolOk ⟨ls, ns, ages, cells, vols, next⟩
  · rfl
  · cases nameOk s <;> rfl
theorem spec_l11Vol_eq (ls : List Int) (ns : List Node) (ages : List Age) (cells : List Cell) (vols : List Vol) (next : Int) (s : List Int) (h : PB ls ns ages cells vols) (hs : s.length ≤ 1073741824) (hK : 2147483648 ≤ K) :
    spec_l11Vol K ls ns ages cells vols next s = some (volCode ⟨ls, ns, ages, cells, vols, next⟩ s, ()) := by
  unfold spec_l11Vol volCode
  rw [spec_l11Form_eq ls ns ages cells vols next s h hs hK, bnd_some', spec_VolAt_eq ls ns ages cells vols next s (by have := h.volsB; omega) hK, bnd_some', br_dec]
  simp only
  rw [pairRes_neg]
  split
  · rename_i h0
    cases volAt vols s
    · rfl
    · rw [h0]; rfl
  · rfl
theorem spec_l11Block_eq (ls : List Int) (ns : List Node) (ages : List Age) (cells : List Cell) (vols : List Vol) (next : Int) (s : List Int) (b : Int) (h : PB ls ns ages cells vols) (hs : s.length ≤ 1073741824) (hK : 2147483648 ≤ K) :
    spec_l11Block K ls ns ages cells vols next s b = some (blockCode ⟨ls, ns, ages, cells, vols, next⟩ s b, ()) := by
  unfold spec_l11Block blockCode
  rw [spec_l11Vol_eq ls ns ages cells vols next s h hs hK, bnd_some', spec_VolAt_eq ls ns ages cells vols next s (by have := h.volsB; omega) hK]
  simp only [bnd_some']
  by_cases h0 : volCode ⟨ls, ns, ages, cells, vols, next⟩ s = 0
  · obtain ⟨-, -, i, hi, hil⟩ := volCode_zero h0
    simp only at hi hil
    rw [decide_eq_false (by simp [h0]), br_false, if_pos h0, hi]
    simp only [pairRes]
    rw [inK_nat hil, idxK_get hil, inK_nat hil, idxK_get hil, spec_l1In_eq, bnd_some', br_not, List.getElem?_eq_getElem hil]
    simp only
    cases vols[i].fixed
    · cases inR b 0 (wr (vols[i].size - 1)) <;> rfl
    · rfl
  · rw [decide_eq_true (show volCode ⟨ls, ns, ages, cells, vols, next⟩ s ≠ 0 from h0), br_true, if_neg h0]
def leName (a b : List Int) : Bool := lessI a b || decide (a = b)
def volPos (l : List Vol) (s : List Int) : Nat → Nat
  | 0 => 0
  | i + 1 => if leName (l.getD i ⟨[], 0, 0, false⟩).name s then i + 1 else volPos l s i
def putVol (l : List Vol) (v : Vol) : List Vol := l.take (volPos l v.name l.length) ++ v :: l.drop (volPos l v.name l.length)
theorem volPos_le (l : List Vol) (s : List Int) : ∀ i, volPos l s i ≤ i
  | 0 => Nat.le_refl _
  | i + 1 => by
    have := volPos_le l s i
    unfold volPos
    split <;> omega
theorem putVol_length (l : List Vol) (v : Vol) : (putVol l v).length = l.length + 1 := by
  have := volPos_le l v.name l.length
  simp [putVol]; omega
theorem mem_putVol {l : List Vol} {v x : Vol} (h : x ∈ putVol l v) : x = v ∨ x ∈ l := by
  unfold putVol at h
  rw [List.mem_append, List.mem_cons] at h
  rcases h with h | h | h
  · exact .inr (List.mem_of_mem_take h)
  · exact .inl h
  · exact .inr (List.mem_of_mem_drop h)
theorem volPos_succ (l : List Vol) (s : List Int) (i : Nat) : volPos l s (i + 1) = if leName (l.getD i ⟨[], 0, 0, false⟩).name s then i + 1 else volPos l s i := rfl
theorem spec_l11PutVol_eq (l : List Vol) (v : Vol) (h : l.length ≤ 67108864) (hK : 2147483648 ≤ K) : spec_l11PutVol K l v.name v.age v.size v.fixed = some (putVol l v, ()) := by
  unfold spec_l11PutVol
  rw [appK_ok (by simp; omega), List.nil_append, appK_ok (by simp; omega), vol_eta]
  have e0 : wr ((List.length (l ++ [v]) : Int) - 1) = (l.length : Int) := by
    rw [show (List.length (l ++ [v]) : Int) - 1 = (l.length : Int) by simp]; exact wr_nat (by omega)
  rw [e0]
  have key : ∀ (z : List Vol) (i : Nat) (x : Vol), i ≤ l.length → z = l.take i ++ x :: l.drop i → z.length = l.length + 1 ∧ z.set i v = l.take i ++ v :: l.drop i := by
    intro z i x hi hz
    subst hz
    refine ⟨by simp; omega, ?_⟩
    rw [List.set_append, if_neg (by rw [List.length_take]; omega), show i - (l.take i).length = 0 by rw [List.length_take]; omega]
    rfl
  refine (loop_dn (fun i (z : List Vol) => (v.fixed, v.size, v.age, v.name, z, (i : Int), ())) (fun i z => i ≤ l.length ∧ ∃ x, z = l.take i ++ x :: l.drop i) (fun i z => some (l.take (volPos l v.name i) ++ v :: l.drop (volPos l v.name i), ())) ?_ ?_ (j0 := l.length) (a0 := l ++ [v]) (by omega) ⟨Nat.le_refl _, v, by simp⟩).trans rfl
  · rintro rec i z ⟨hi, x, hz⟩ hrec
    obtain ⟨hzl, hset⟩ := key z (i + 1) x hi hz
    have hi1 : i < z.length := by omega
    have hi2 : i + 1 < z.length := by omega
    have hil : i < l.length := by omega
    have hzi : z[i]'hi1 = l[i] := by
      subst hz
      rw [List.getElem_append_left (by rw [List.length_take]; omega), List.getElem_take]
    simp only
    rw [decide_eq_true (show ((i + 1 : Nat) : Int) > 0 by omega), br_true, wr_pred (by omega), inK_nat hi1, idxK_get hi1, inK_nat hi1, idxK_get hi1, inK_nat hi2, idxK_get hi2, inK_nat hi2, idxK_get hi2, br_not, hzi, volPos_succ, getD_get hil, Int.toNat_natCast, vol_eta, vol_eta, hset]
    show br (leName l[i].name v.name) _ _ = _
    cases leName l[i].name v.name
    · simp only [br_false, Bool.false_eq_true, if_false]
      refine hrec _ ⟨by omega, l[i], ?_⟩
      rw [hz, List.set_append, if_neg (by rw [List.length_take]; omega), show i + 1 - (l.take (i + 1)).length = 0 by rw [List.length_take]; omega, take_succ_get hil]
      rw [List.set_cons_zero, List.append_assoc, List.singleton_append, ← drop_cons hil]
    · simp only [br_true, if_true]
  · rintro rec z ⟨hi, x, hz⟩
    obtain ⟨hzl, hset⟩ := key z 0 x hi hz
    have h0 : 0 < z.length := by omega
    simp only
    rw [decide_eq_false (by omega), br_false, inK_nat h0, idxK_get h0, Int.toNat_natCast, vol_eta, hset]
    rfl
def create (p : Pool) (s : List Int) (z : Int) : Pool × Int :=
  if formCode p s = 0 then if (volAt p.vols s).isSome then (p, 3) else if inR z 1 12 then
    endOp p { p with ages := (newAge p.ages p.next 0).1, vols := putVol p.vols ⟨s, p.next, z, false⟩, next := wr (p.next + 1) } (newAge p.ages p.next 0).2 else (p, 4) else (p, formCode p s)
theorem spec_Create_eq (ls : List Int) (ns : List Node) (ages : List Age) (cells : List Cell) (vols : List Vol) (next : Int) (s : List Int) (z : Int) (h : PB ls ns ages cells vols) (hs : s.length ≤ 67108864) (hK : 2147483648 ≤ K) :
    spec_Create K ls ns ages cells vols next s z = some (poolRes (create ⟨ls, ns, ages, cells, vols, next⟩ s z)) := by
  unfold spec_Create create
  rw [spec_l11Form_eq ls ns ages cells vols next s h (by omega) hK, bnd_some', spec_l10Copy_eq ls ns ages cells vols next h hK]
  simp only [bnd_some']
  by_cases h0 : formCode ⟨ls, ns, ages, cells, vols, next⟩ s = 0
  · obtain ⟨hp, hn⟩ := formCode_zero h0
    obtain ⟨hb, hb1, hb2, hb3, hb4, -⟩ := poolOk_pb hp
    simp only at hb hb1 hb2 hb3 hb4
    rw [decide_eq_false (by simp [h0]), br_false, if_pos h0, spec_VolAt_eq ls ns ages cells vols next s (by omega) hK, bnd_some']
    simp only
    rw [pairRes_ge, spec_l1In_eq, bnd_some', br_not, spec_NewAge_eq ages next 0 (by omega) hK, bnd_some', spec_l11PutVol_eq vols ⟨s, next, z, false⟩ (by omega) hK, bnd_some']
    simp only
    rw [spec_l11End_eq ls ns ages cells vols next ls ns _ cells _ _ _ h (fun _ => ?_) hK, bnd_some']
    · cases (volAt vols s).isSome
      · cases inR z 1 12 <;> rfl
      · rfl
    · have := newAge_length ages next 0
      have h9 := putVol_length vols ⟨s, next, z, false⟩
      refine ⟨hb.tree, by omega, by omega, by omega, ?_⟩
      intro v hv
      rcases mem_putVol hv with hv | hv
      · subst hv; exact hs
      · exact hb.names v hv
  · rw [decide_eq_true (show formCode ⟨ls, ns, ages, cells, vols, next⟩ s ≠ 0 from h0), br_true, if_neg h0]
    rfl
theorem mem_set_vol {l : List Vol} {i : Nat} {a x : Vol} (h : x ∈ l.set i a) : x ∈ l ∨ x = a := List.mem_or_eq_of_mem_set h
def snapVols (vols : List Vol) (i : Nat) (v : Vol) (s : List Int) (next : Int) (fx : Bool) : List Vol := putVol (vols.set i ⟨v.name, next, v.size, v.fixed⟩) ⟨s, wr (next + 1), v.size, fx⟩
def snap (p : Pool) (f s : List Int) (fx : Bool) : Pool × Int :=
  if formCode p f = 0 then if nameOk s then match volAt p.vols f with
    | none => (p, 2)
    | some i => if (volAt p.vols s).isSome then (p, 3) else match p.vols[i]? with
      | none => (p, 3)
      | some v => endOp p { p with ages := (newAge (newAge p.ages p.next v.age).1 (wr (p.next + 1)) v.age).1, vols := snapVols p.vols i v s p.next fx, next := wr (p.next + 2) }
          ((newAge p.ages p.next v.age).2 && (newAge (newAge p.ages p.next v.age).1 (wr (p.next + 1)) v.age).2)
    else (p, 1) else (p, 1)
theorem spec_Snap_eq (ls : List Int) (ns : List Node) (ages : List Age) (cells : List Cell) (vols : List Vol) (next : Int) (f s : List Int) (fx : Bool) (h : PB ls ns ages cells vols) (hf : f.length ≤ 67108864) (hs : s.length ≤ 67108864) (hK : 2147483648 ≤ K) :
    spec_Snap K ls ns ages cells vols next f s fx = some (poolRes (snap ⟨ls, ns, ages, cells, vols, next⟩ f s fx)) := by
  unfold spec_Snap snap
  rw [spec_l11Form_eq ls ns ages cells vols next f h (by omega) hK, bnd_some', spec_l10Copy_eq ls ns ages cells vols next h hK]
  simp only [bnd_some']
  by_cases h0 : formCode ⟨ls, ns, ages, cells, vols, next⟩ f = 0
  · obtain ⟨hp, hn⟩ := formCode_zero h0
    obtain ⟨hb, hb1, hb2, hb3, hb4, -⟩ := poolOk_pb hp
    simp only at hb hb1 hb2 hb3 hb4
    rw [decide_eq_false (by simp [h0]), br_false, if_pos h0, spec_NameOk_eq s (by omega) hK, bnd_some', br_not, spec_VolAt_eq ls ns ages cells vols next f (by omega) hK]
    simp only [bnd_some']
    rw [pairRes_neg, spec_VolAt_eq ls ns ages cells vols next s (by omega) hK, bnd_some']
    simp only
    rw [pairRes_ge]
    cases nameOk s
    · rfl
    rw [br_true, if_pos rfl]
    cases ha : volAt vols f with
    | none => rfl
    | some i =>
      simp only [Option.isNone_some, br_false, pairRes]
      cases (volAt vols s).isSome
      case true => rfl
      rw [br_false, if_neg (by simp)]
      obtain ⟨hi, -⟩ := volAt_get ha
      have n1 := newAge_length ages next vols[i].age
      have n2 := newAge_length (newAge ages next vols[i].age).1 (wr (next + 1)) vols[i].age
      have n3 := putVol_length (vols.set i ⟨vols[i].name, next, vols[i].size, vols[i].fixed⟩) ⟨s, wr (next + 1), vols[i].size, fx⟩
      rw [List.length_set] at n3
      rw [inK_nat hi, idxK_get hi, List.getElem?_eq_getElem hi, spec_NewAge_eq ages next _ (by omega) hK, bnd_some', inK_nat hi, idxK_get hi]
      simp only
      rw [spec_NewAge_eq _ _ _ (by omega) hK, bnd_some', inK_nat hi, idxK_get hi, inK_nat hi, idxK_get hi, Int.toNat_natCast, spec_l11PutVol_eq _ ⟨s, wr (next + 1), vols[i].size, fx⟩ (by rw [List.length_set]; omega) hK, bnd_some']
      simp only
      have hpb : PB ls ns (newAge (newAge ages next vols[i].age).1 (wr (next + 1)) vols[i].age).1 cells (putVol (vols.set i ⟨vols[i].name, next, vols[i].size, vols[i].fixed⟩) ⟨s, wr (next + 1), vols[i].size, fx⟩) := by
        refine ⟨hb.tree, by omega, by omega, by omega, ?_⟩
        intro v hv
        rcases mem_putVol hv with hv | hv
        · subst hv; exact hs
        · rcases mem_set_vol hv with hv | hv
          · exact hb.names v hv
          · subst hv; exact hb.names vols[i] (List.getElem_mem hi)
      rw [spec_l11End_eq ls ns ages cells vols next ls ns _ cells _ _ _ h (fun _ => hpb) hK, spec_l11End_eq ls ns ages cells vols next ls ns _ cells _ _ _ h (fun _ => hpb) hK]
      cases (newAge ages next vols[i].age).2 <;> rfl
  · rw [decide_eq_true (show formCode ⟨ls, ns, ages, cells, vols, next⟩ f ≠ 0 from h0), br_true, if_neg h0]
    rfl
def kill (p : Pool) (s : List Int) : Pool × Int := if volCode p s = 0 then match volAt p.vols s with
  | some i => endOp p { p with vols := p.vols.take i ++ p.vols.drop (i + 1) } true
  | none => (p, 0) else (p, volCode p s)
theorem spec_Kill_eq (ls : List Int) (ns : List Node) (ages : List Age) (cells : List Cell) (vols : List Vol) (next : Int) (s : List Int) (h : PB ls ns ages cells vols) (hs : s.length ≤ 67108864) (hK : 2147483648 ≤ K) :
    spec_Kill K ls ns ages cells vols next s = some (poolRes (kill ⟨ls, ns, ages, cells, vols, next⟩ s)) := by
  unfold spec_Kill kill
  rw [spec_l10Copy_eq ls ns ages cells vols next h hK, bnd_some', spec_l11Vol_eq ls ns ages cells vols next s h (by omega) hK, bnd_some']
  simp only
  by_cases h0 : volCode ⟨ls, ns, ages, cells, vols, next⟩ s = 0
  · obtain ⟨hp, -, i, hi, hil⟩ := volCode_zero h0
    obtain ⟨hb, hb1, hb2, hb3, hb4, -⟩ := poolOk_pb hp
    simp only at hb hb1 hb2 hb3 hb4 hi hil
    rw [decide_eq_false (by simp [h0]), br_false, if_pos h0, spec_VolAt_eq ls ns ages cells vols next s (by omega) hK, bnd_some', hi]
    simp only [pairRes]
    rw [show wr ((i : Int) + 1) = ((i + 1 : Nat) : Int) from wr_succ (by omega), subK_zero (by omega), appK_ok (by simp; omega), subK_end (by omega), appK_ok (by simp; omega), List.nil_append]
    rw [spec_l11End_eq ls ns ages cells vols next ls ns ages cells _ next true h (fun _ => ?_) hK]
    · rfl
    · refine ⟨hb.tree, by omega, by omega, by simp; omega, ?_⟩
      intro v hv
      rw [List.mem_append] at hv
      rcases hv with hv | hv
      · exact hb.names v (List.mem_of_mem_take hv)
      · exact hb.names v (List.mem_of_mem_drop hv)
  · rw [decide_eq_true (show volCode ⟨ls, ns, ages, cells, vols, next⟩ s ≠ 0 from h0), br_true, if_neg h0]
    rfl
def write (p : Pool) (s : List Int) (b n : Int) : Pool × Int :=
  if blockCode p s b = 0 then if isWord n then match volAt p.vols s with
    | some i => match p.vols[i]? with
      | some v => if (takeCell p.cells n).2.2 then
          endOp p (putKey { p with cells := (takeCell p.cells n).1 } ⟨b, v.age, 1, (takeCell p.cells n).2.1, ((takeCell p.cells n).1.getD (takeCell p.cells n).2.1.toNat ⟨0, false, 0⟩).gen⟩).2
            (putKey { p with cells := (takeCell p.cells n).1 } ⟨b, v.age, 1, (takeCell p.cells n).2.1, ((takeCell p.cells n).1.getD (takeCell p.cells n).2.1.toNat ⟨0, false, 0⟩).gen⟩).1
        else (p, 6)
      | none => (p, 0)
    | none => (p, 0) else (p, 4) else (p, blockCode p s b)
theorem takeCell_true {l : List Cell} {n : Int} (h : (takeCell l n).2.2 = true) : ∃ i : Nat, (takeCell l n).2.1 = i ∧ i < l.length := by
  unfold takeCell at h ⊢
  split at h
  · cases h
  · rename_i i hi
    split at h
    · rename_i h1
      rw [if_pos h1]
      exact ⟨i, rfl, freeAt_lt hi⟩
    · cases h
theorem putKey_rest (p : Pool) (k : Key) : (putKey p k).2.ages = p.ages ∧ (putKey p k).2.vols = p.vols ∧ (putKey p k).2.next = p.next := by
  unfold putKey
  split <;> exact ⟨rfl, rfl, rfl⟩
theorem pool_ext {p q : Pool} (h1 : p.ls = q.ls) (h2 : p.ns = q.ns) (h3 : p.ages = q.ages) (h4 : p.cells = q.cells) (h5 : p.vols = q.vols) (h6 : p.next = q.next) : p = q := by
  cases p; cases q; simp_all
theorem spec_Write_eq (ls : List Int) (ns : List Node) (ages : List Age) (cells : List Cell) (vols : List Vol) (next : Int) (s : List Int) (b n : Int) (h : PB ls ns ages cells vols) (hs : s.length ≤ 67108864) (hK : 2147483648 ≤ K) :
    spec_Write K ls ns ages cells vols next s b n = some (poolRes (write ⟨ls, ns, ages, cells, vols, next⟩ s b n)) := by
  unfold spec_Write write
  rw [spec_l10Copy_eq ls ns ages cells vols next h hK, bnd_some', spec_l11Block_eq ls ns ages cells vols next s b h (by omega) hK, bnd_some']
  simp only [joinK_eq]
  by_cases h0 : blockCode ⟨ls, ns, ages, cells, vols, next⟩ s b = 0
  · obtain ⟨hp, -, i, hi, hil⟩ := volCode_zero (blockCode_zero h0)
    simp only at hi hil
    rw [decide_eq_true h0, br_true, spec_l1Word_eq, bnd_some', br_not, if_pos h0]
    cases isWord n
    · rfl
    rw [br_true, if_pos rfl, h0, decide_eq_false (by simp), br_false, spec_TakeCell_eq cells n (by have := h.cellsB; omega) hK, bnd_some', hi]
    simp only
    rw [List.getElem?_eq_getElem hil]
    simp only
    have hlen := takeCell_length cells n
    cases ht : (takeCell cells n).2.2
    · rw [br_false, spec_l11End_eq ls ns ages cells vols next ls ns ages _ vols next false h (fun h => nomatch h) hK]
      rfl
    · obtain ⟨c, hc, hcl⟩ := takeCell_true ht
      have hcl2 : c < (takeCell cells n).1.length := by omega
      rw [br_true, spec_VolAt_eq ls ns ages cells vols next s (by have := h.volsB; omega) hK, bnd_some', hi, if_pos rfl]
      simp only [pairRes]
      rw [inK_nat hil, idxK_get hil, hc, inK_nat hcl2, idxK_get hcl2, Int.toNat_natCast, getD_get hcl2]
      have hpb : PBp (putKey ⟨ls, ns, ages, (takeCell cells n).1, vols, next⟩ ⟨b, vols[i].age, 1, c, (takeCell cells n).1[c].gen⟩).2 :=
        putKey_pb _ ⟨h.tree, h.agesB, by simp only; rw [hlen]; exact h.cellsB, h.volsB, h.names⟩
      have hrest := putKey_rest ⟨ls, ns, ages, (takeCell cells n).1, vols, next⟩ ⟨b, vols[i].age, 1, c, (takeCell cells n).1[c].gen⟩
      rw [spec_l11Put_eq ls ns ages (takeCell cells n).1 vols next ⟨b, vols[i].age, 1, c, (takeCell cells n).1[c].gen⟩ h.tree (by rw [hlen]; exact h.cellsB) hK, bnd_some']
      simp only at hrest ⊢
      generalize putKey ⟨ls, ns, ages, (takeCell cells n).1, vols, next⟩ ⟨b, vols[i].age, 1, c, (takeCell cells n).1[c].gen⟩ = r at *
      unfold PBp at hpb
      rw [hrest.1, hrest.2.1] at hpb
      rw [spec_l11End_eq ls ns ages cells vols next _ _ ages _ vols next _ h (fun _ => hpb) hK]
      have e : (⟨r.2.ls, r.2.ns, ages, r.2.cells, vols, next⟩ : Pool) = r.2 := pool_ext rfl rfl hrest.1.symm rfl hrest.2.1.symm hrest.2.2.symm
      rw [e]; rfl
  · rw [decide_eq_false h0, br_false, if_neg h0, decide_eq_true (show blockCode ⟨ls, ns, ages, cells, vols, next⟩ s b ≠ 0 from h0), br_true]
    rfl
def discardAt (p : Pool) (v : Vol) (b : Int) : Bool × Pool := match seenAbove p.ns p.ages b v.age with
  | some k => if k.kind = 1 then putKey p ⟨b, v.age, 2, 0, 0⟩ else if (treeAt p.ls p.ns b v.age).isNone then (true, p) else putKey p ⟨b, v.age, 0, 0, 0⟩
  | none => if (treeAt p.ls p.ns b v.age).isNone then (true, p) else putKey p ⟨b, v.age, 0, 0, 0⟩
theorem discardAt_pb {p : Pool} (v : Vol) (b : Int) (h : PBp p) : PBp (discardAt p v b).2 := by
  unfold discardAt
  split
  · split
    · exact putKey_pb _ h
    · split
      · exact h
      · exact putKey_pb _ h
  · split
    · exact h
    · exact putKey_pb _ h
theorem discardAt_rest (p : Pool) (v : Vol) (b : Int) : (discardAt p v b).2.ages = p.ages ∧ (discardAt p v b).2.vols = p.vols ∧ (discardAt p v b).2.next = p.next := by
  unfold discardAt
  split
  · split
    · exact putKey_rest _ _
    · split
      · exact ⟨rfl, rfl, rfl⟩
      · exact putKey_rest _ _
  · split
    · exact ⟨rfl, rfl, rfl⟩
    · exact putKey_rest _ _
theorem spec_l11Discard_eq (ls : List Int) (ns : List Node) (ages : List Age) (cells : List Cell) (vols : List Vol) (next : Int) (i : Nat) (b : Int) (h : PB ls ns ages cells vols) (hi : i < vols.length) (hK : 2147483648 ≤ K) :
    spec_l11Discard K ls ns ages cells vols next i b = some ((discardAt ⟨ls, ns, ages, cells, vols, next⟩ vols[i] b).1, (discardAt ⟨ls, ns, ages, cells, vols, next⟩ vols[i] b).2.ls, (discardAt ⟨ls, ns, ages, cells, vols, next⟩ vols[i] b).2.ns, (discardAt ⟨ls, ns, ages, cells, vols, next⟩ vols[i] b).2.cells, ()) := by
  unfold spec_l11Discard discardAt
  rw [inK_nat hi, idxK_get hi, spec_SeenAbove_eq ls ns ages b _ h.tree h.agesB hK, bnd_some', spec_TreeAt_eq ls ns b _ h.tree hK]
  simp only [bnd_some']
  have p2 := spec_l11Put_eq (K := K) ls ns ages cells vols next ⟨b, vols[i].age, 2, 0, 0⟩ h.tree h.cellsB hK
  have p0 := spec_l11Put_eq (K := K) ls ns ages cells vols next ⟨b, vols[i].age, 0, 0, 0⟩ h.tree h.cellsB hK
  simp only at p2 p0
  rw [p2, p0]
  simp only [bnd_some']
  have fin : br (!(keyRes (treeAt ls ns b vols[i].age)).2.2.2.2.2.1) (some (true, ls, ns, cells, ())) (some ((putKey ⟨ls, ns, ages, cells, vols, next⟩ ⟨b, vols[i].age, 0, 0, 0⟩).1, (putKey ⟨ls, ns, ages, cells, vols, next⟩ ⟨b, vols[i].age, 0, 0, 0⟩).2.ls, (putKey ⟨ls, ns, ages, cells, vols, next⟩ ⟨b, vols[i].age, 0, 0, 0⟩).2.ns, (putKey ⟨ls, ns, ages, cells, vols, next⟩ ⟨b, vols[i].age, 0, 0, 0⟩).2.cells, ())) =
      some ((if (treeAt ls ns b vols[i].age).isNone then (true, ⟨ls, ns, ages, cells, vols, next⟩) else putKey ⟨ls, ns, ages, cells, vols, next⟩ ⟨b, vols[i].age, 0, 0, 0⟩ : Bool × Pool).1, (if (treeAt ls ns b vols[i].age).isNone then (true, ⟨ls, ns, ages, cells, vols, next⟩) else putKey ⟨ls, ns, ages, cells, vols, next⟩ ⟨b, vols[i].age, 0, 0, 0⟩ : Bool × Pool).2.ls,
        (if (treeAt ls ns b vols[i].age).isNone then (true, ⟨ls, ns, ages, cells, vols, next⟩) else putKey ⟨ls, ns, ages, cells, vols, next⟩ ⟨b, vols[i].age, 0, 0, 0⟩ : Bool × Pool).2.ns, (if (treeAt ls ns b vols[i].age).isNone then (true, ⟨ls, ns, ages, cells, vols, next⟩) else putKey ⟨ls, ns, ages, cells, vols, next⟩ ⟨b, vols[i].age, 0, 0, 0⟩ : Bool × Pool).2.cells, ()) := by
    cases treeAt ls ns b vols[i].age <;> rfl
  rw [fin]
  cases seenAbove ns ages b vols[i].age with
  | none => rfl
  | some k =>
    rw [keyRes_some]
    simp only [br_true]
    by_cases hk : k.kind = 1
    · rw [decide_eq_true hk, if_pos hk]; rfl
    · rw [decide_eq_false hk, if_neg hk]; rfl
def discard (p : Pool) (s : List Int) (b : Int) : Pool × Int :=
  if blockCode p s b = 0 then match volAt p.vols s with
    | some i => match p.vols[i]? with
      | some v => endOp p (discardAt p v b).2 (discardAt p v b).1
      | none => (p, 0)
    | none => (p, 0) else (p, blockCode p s b)
theorem spec_Discard_eq (ls : List Int) (ns : List Node) (ages : List Age) (cells : List Cell) (vols : List Vol) (next : Int) (s : List Int) (b : Int) (h : PB ls ns ages cells vols) (hs : s.length ≤ 67108864) (hK : 2147483648 ≤ K) :
    spec_Discard K ls ns ages cells vols next s b = some (poolRes (discard ⟨ls, ns, ages, cells, vols, next⟩ s b)) := by
  unfold spec_Discard discard
  rw [spec_l10Copy_eq ls ns ages cells vols next h hK, bnd_some', spec_l11Block_eq ls ns ages cells vols next s b h (by omega) hK, bnd_some']
  simp only
  by_cases h0 : blockCode ⟨ls, ns, ages, cells, vols, next⟩ s b = 0
  · obtain ⟨hp, -, i, hi, hil⟩ := volCode_zero (blockCode_zero h0)
    simp only at hi hil
    rw [decide_eq_false (by simp [h0]), br_false, if_pos h0, spec_VolAt_eq ls ns ages cells vols next s (by have := h.volsB; omega) hK, bnd_some', hi]
    simp only [pairRes]
    rw [List.getElem?_eq_getElem hil, spec_l11Discard_eq ls ns ages cells vols next i b h hil hK, bnd_some']
    have hpb := discardAt_pb (p := ⟨ls, ns, ages, cells, vols, next⟩) vols[i] b h
    have hrest := discardAt_rest ⟨ls, ns, ages, cells, vols, next⟩ vols[i] b
    simp only at hrest ⊢
    generalize discardAt ⟨ls, ns, ages, cells, vols, next⟩ vols[i] b = r at *
    unfold PBp at hpb
    rw [hrest.1, hrest.2.1] at hpb
    rw [spec_l11End_eq ls ns ages cells vols next _ _ ages _ vols next _ h (fun _ => hpb) hK]
    have e : (⟨r.2.ls, r.2.ns, ages, r.2.cells, vols, next⟩ : Pool) = r.2 := pool_ext rfl rfl hrest.1.symm rfl hrest.2.1.symm hrest.2.2.symm
    rw [e]; rfl
  · rw [decide_eq_true (show blockCode ⟨ls, ns, ages, cells, vols, next⟩ s b ≠ 0 from h0), br_true, if_neg h0]
    rfl
end
end Go.Proofs.Fw.R1
set_option linter.unusedVariables false
set_option linter.unusedSimpArgs false
namespace Go.Proofs.Fw.R1
open Go.Proofs.Fw
def cutDown (v : Vol) (z : Int) : Nat → Pool → Bool × Pool
  | 0, q => (true, q)
  | m + 1, q => if (discardAt q v (z + m)).1 then cutDown v z m (discardAt q v (z + m)).2 else (false, (discardAt q v (z + m)).2)
def resize (p : Pool) (s : List Int) (z : Int) : Pool × Int :=
  if blockCode p s 0 = 0 then if inR z 1 12 then match volAt p.vols s with
    | some i => match p.vols[i]? with
      | some v => endOp p { (cutDown v z (v.size - z).toNat p).2 with vols := p.vols.set i ⟨v.name, v.age, z, v.fixed⟩ } (cutDown v z (v.size - z).toNat p).1
      | none => (p, 0)
    | none => (p, 0) else (p, 4) else (p, blockCode p s 0)
theorem volsOk_size {p : Pool} (h : poolOk p = true) {i : Nat} (hi : i < p.vols.length) : 1 ≤ p.vols[i].size ∧ p.vols[i].size ≤ 12 := by
  unfold poolOk at h
  simp only [Bool.and_eq_true] at h
  have h6 := h.2.2.2.2.2.1
  unfold volsOk at h6
  simp only [Bool.and_eq_true, List.all_eq_true] at h6
  have := h6.1 i (by rw [List.mem_range'_1]; omega)
  unfold volsOkAt at this
  rw [List.getElem?_eq_getElem hi] at this
  simp only [Bool.and_eq_true] at this
  have h7 := this.2.2.1
  unfold inR at h7
  simp only [Bool.and_eq_true, decide_eq_true_eq] at h7
  exact h7
section
variable {K : Nat}
theorem spec_Resize_eq (ls : List Int) (ns : List Node) (ages : List Age) (cells : List Cell) (vols : List Vol) (next : Int) (s : List Int) (z : Int) (h : PB ls ns ages cells vols) (hs : s.length ≤ 67108864) (hK : 2147483648 ≤ K) :
    spec_Resize K ls ns ages cells vols next s z = some (poolRes (resize ⟨ls, ns, ages, cells, vols, next⟩ s z)) := by
  unfold spec_Resize resize
  rw [spec_l10Copy_eq ls ns ages cells vols next h hK, bnd_some', spec_l11Block_eq ls ns ages cells vols next s 0 h (by omega) hK, bnd_some']
  simp only [joinK_eq]
  by_cases h0 : blockCode ⟨ls, ns, ages, cells, vols, next⟩ s 0 = 0
  · obtain ⟨hp, -, i, hi, hil⟩ := volCode_zero (blockCode_zero h0)
    have hsz := volsOk_size hp hil
    simp only at hi hil hsz
    rw [decide_eq_true h0, br_true, spec_l1In_eq, bnd_some', br_not, if_pos h0]
    cases hz : inR z 1 12
    · rfl
    unfold inR at hz
    simp only [Bool.and_eq_true, decide_eq_true_eq] at hz
    rw [br_true, if_pos rfl, h0, decide_eq_false (by simp), br_false, spec_VolAt_eq ls ns ages cells vols next s (by have := h.volsB; omega) hK, bnd_some', hi]
    simp only [pairRes]
    rw [inK_nat hil, idxK_get hil, List.getElem?_eq_getElem hil, show wr (vols[i].size - 1) = vols[i].size - 1 from wr_of (by omega) (by omega)]
    simp only
    have hset : PB ls ns ages cells (vols.set i ⟨vols[i].name, vols[i].age, z, vols[i].fixed⟩) := by
      refine ⟨h.tree, h.agesB, h.cellsB, by rw [List.length_set]; exact h.volsB, ?_⟩
      intro v hv
      rcases mem_set_vol hv with hv | hv
      · exact h.names v hv
      · subst hv; exact h.names vols[i] (List.getElem_mem hil)
    have fin : ∀ (q : Pool) (ok : Bool), PBp q → q.ages = ages → q.vols = vols → q.next = next → (inK vols (i : Int) (idxK vols (i : Int) fun x9 => bnd (spec_l11End_ro K ls ns ages cells vols next q.ls q.ns ages q.cells (List.set vols (Int.toNat (i : Int)) ⟨x9.name, x9.age, z, x9.fixed⟩) next ok) fun y10 =>
        some (y10.1, y10.2.1, y10.2.2.1, y10.2.2.2.1, y10.2.2.2.2.1, y10.2.2.2.2.2.1, y10.2.2.2.2.2.2.1, ()))) = some (poolRes (endOp ⟨ls, ns, ages, cells, vols, next⟩ { q with vols := vols.set i ⟨vols[i].name, vols[i].age, z, vols[i].fixed⟩ } ok)) := by
      intro q ok hq h1 h2 h3
      obtain ⟨qls, qns, qages, qcells, qvols, qnext⟩ := q
      simp only at h1 h2 h3
      subst h1 h2 h3
      rw [inK_nat hil, idxK_get hil, Int.toNat_natCast, spec_l11End_eq ls ns _ cells _ _ _ _ _ _ _ _ ok h (fun _ => ?_) hK]
      · rfl
      · refine ⟨hq.tree, hq.agesB, hq.cellsB, by rw [List.length_set]; exact hq.volsB, hset.names⟩
    by_cases hlt : vols[i].size < z
    · have hm : (vols[i].size - z).toNat = 0 := by omega
      obtain ⟨K', hK'⟩ : ∃ K', K = K' + 1 := ⟨K - 1, by omega⟩
      have hl : ∀ {S R : Type} (F : (S → Option R) → S → Option R) (x : S), loopFix K F x = F (loopFix K' F) x := by intro S R F x; rw [hK']; rfl
      rw [hl]
      simp only
      rw [decide_eq_false (show ¬ vols[i].size - 1 ≥ z by omega), br_false, hm]
      exact fin ⟨ls, ns, ages, cells, vols, next⟩ true h rfl rfl rfl
    · rw [show vols[i].size - 1 = z + ((vols[i].size - z).toNat : Int) - 1 by omega]
      refine (loop_dn (fun m (a : Pool × Bool) => (0, [], [], [], [], [], a.1.next, a.1.vols, a.1.cells, a.1.ages, a.1.ns, a.1.ls, next, vols, cells, ages, ns, ls, a.2, z, (i : Int), z + (m : Int) - 1, ()))
        (fun m a => PBp a.1 ∧ a.1.ages = ages ∧ a.1.vols = vols ∧ a.1.next = next ∧ m ≤ 12) (fun m a => if a.2 then some (poolRes (endOp ⟨ls, ns, ages, cells, vols, next⟩ { (cutDown vols[i] z m a.1).2 with vols := vols.set i ⟨vols[i].name, vols[i].age, z, vols[i].fixed⟩ } (cutDown vols[i] z m a.1).1)) else some (poolRes (endOp ⟨ls, ns, ages, cells, vols, next⟩ { a.1 with vols := vols.set i ⟨vols[i].name, vols[i].age, z, vols[i].fixed⟩ } false)))
        ?_ ?_ (j0 := (vols[i].size - z).toNat) (a0 := (⟨ls, ns, ages, cells, vols, next⟩, true)) (by omega) ⟨h, rfl, rfl, rfl, by omega⟩).trans rfl
      · rintro rec m ⟨q, ok⟩ ⟨hq, h1, h2, h3, hm⟩ hrec
        simp only at hq h1 h2 h3 hrec ⊢
        rw [decide_eq_true (show z + ((m + 1 : Nat) : Int) - 1 ≥ z by omega), br_true]
        cases ok
        · rw [br_false, h2, h3, h1]
          exact fin q false hq h1 h2 h3
        · rw [br_true, if_pos rfl]
          obtain ⟨qls, qns, qages, qcells, qvols, qnext⟩ := q
          simp only at h1 h2 h3
          subst h1 h2 h3
          have hd := discardAt_pb (p := ⟨qls, qns, qages, qcells, qvols, qnext⟩) qvols[i] (z + m) hq
          have hrest := discardAt_rest ⟨qls, qns, qages, qcells, qvols, qnext⟩ qvols[i] (z + m)
          rw [show z + ((m + 1 : Nat) : Int) - 1 = z + m by omega, spec_l11Discard_eq qls qns qages qcells qvols qnext i (z + m) hq hil hK, bnd_some']
          simp only at hrest ⊢
          unfold cutDown
          rw [show wr (z + (m : Int) - 1) = z + (m : Int) - 1 from wr_of (by omega) (by omega)]
          generalize discardAt ⟨qls, qns, qages, qcells, qvols, qnext⟩ qvols[i] (z + m) = r at *
          have hr := hrec (r.2, r.1) ⟨hd, hrest.1, hrest.2.1, hrest.2.2, by omega⟩
          simp only at hr
          rw [hrest.1, hrest.2.1, hrest.2.2] at hr
          rw [hr]
          cases r.1 <;> rfl
      · rintro rec ⟨q, ok⟩ ⟨hq, h1, h2, h3, hm⟩
        simp only at hq h1 h2 h3 ⊢
        rw [decide_eq_false (by omega), br_false, h1, h2, h3]
        cases ok
        · exact fin q false hq h1 h2 h3
        · exact fin q true hq h1 h2 h3
  · rw [decide_eq_false h0, br_false, if_neg h0, decide_eq_true (show blockCode ⟨ls, ns, ages, cells, vols, next⟩ s 0 ≠ 0 from h0), br_true]
    rfl
def pruneOf (p : Pool) (kind : Int) (j : Nat) : Bool × Pool :=
  if kind = 1 ∨ kind = 2 then match (treeKeys p.ns)[j]? with
    | some k => putKey p ⟨k.blk, k.age, 0, 0, 0⟩
    | none => (false, p)
  else if kind = 3 then match (treeKeys p.ns)[j]? with
    | some k => ((treePut p.ls p.ns ⟨k.blk, k.age, 0, 0, 0⟩).2.2 && (treePut (treePut p.ls p.ns ⟨k.blk, k.age, 0, 0, 0⟩).1 (treePut p.ls p.ns ⟨k.blk, k.age, 0, 0, 0⟩).2.1 ⟨k.blk, kidAge p k.age, k.kind, k.cell, k.gen⟩).2.2,
      { p with ls := (treePut (treePut p.ls p.ns ⟨k.blk, k.age, 0, 0, 0⟩).1 (treePut p.ls p.ns ⟨k.blk, k.age, 0, 0, 0⟩).2.1 ⟨k.blk, kidAge p k.age, k.kind, k.cell, k.gen⟩).1, ns := (treePut (treePut p.ls p.ns ⟨k.blk, k.age, 0, 0, 0⟩).1 (treePut p.ls p.ns ⟨k.blk, k.age, 0, 0, 0⟩).2.1 ⟨k.blk, kidAge p k.age, k.kind, k.cell, k.gen⟩).2.1 })
    | none => (false, p)
  else if kind = 4 then match p.ages[j]? with
    | some a => ((cutAge p.ages a.id).2, { p with ages := (cutAge p.ages a.id).1 })
    | none => (false, p)
  else (false, p)
def endB (p q : Pool) (ok : Bool) : Pool × Bool := if ok then if poolOk q then (q, true) else (p, false) else (p, false)
def pruneStep (p : Pool) : Pool × Bool := endB p (pruneOf p (nextStep p).1 (nextStep p).2).2 (pruneOf p (nextStep p).1 (nextStep p).2).1
theorem stepKinds_some {p : Pool} : ∀ {m : Nat} {kind : Int} {r : Int × Nat}, stepKinds p m kind = some r → kind ≤ r.1 ∧ r.1 < kind + m ∧ r.2 < (treeKeys p.ns).length
  | 0, _, _, h => by simp [stepKinds] at h
  | m + 1, kind, r, h => by
    unfold stepKinds at h
    split at h
    · rename_i j hj
      simp only [Option.some.injEq] at h
      subst h
      obtain ⟨h1, h2, -⟩ := findI_some hj
      exact ⟨Int.le_refl _, by simp only; omega, h2⟩
    · have := stepKinds_some h
      omega
theorem nextStep_range (p : Pool) : ((nextStep p).1 = 0 ∧ (nextStep p).2 = 0) ∨ (1 ≤ (nextStep p).1 ∧ (nextStep p).1 ≤ 3 ∧ (nextStep p).2 < (treeKeys p.ns).length) ∨ ((nextStep p).1 = 4 ∧ (nextStep p).2 < p.ages.length) := by
  unfold nextStep
  split
  · split
    · rename_i r hr
      have := stepKinds_some hr
      right; left; omega
    · split
      · rename_i j hj
        obtain ⟨h1, h2, -⟩ := findI_some hj
        exact .inr (.inr ⟨rfl, h2⟩)
      · exact .inl ⟨rfl, rfl⟩
  · exact .inl ⟨rfl, rfl⟩
theorem treePut_tb2 {ls : List Int} {ns : List Node} (k k2 : Key) (h : TB ls ns) : TB (treePut (treePut ls ns k).1 (treePut ls ns k).2.1 k2).1 (treePut (treePut ls ns k).1 (treePut ls ns k).2.1 k2).2.1 := treePut_tb k2 (treePut_tb k h)
theorem spec_PruneStep_eq (ls : List Int) (ns : List Node) (ages : List Age) (cells : List Cell) (vols : List Vol) (next : Int) (h : PB ls ns ages cells vols) (hK : 2147483648 ≤ K) :
    spec_PruneStep K ls ns ages cells vols next = some (poolResB (pruneStep ⟨ls, ns, ages, cells, vols, next⟩)) := by
  unfold spec_PruneStep pruneStep
  rw [spec_l10Copy_eq ls ns ages cells vols next h hK, bnd_some', spec_NextStep_eq ls ns ages cells vols next h hK, bnd_some', spec_TreeKeys_eq ls ns h.tree hK, bnd_some']
  simp only [joinK_eq]
  have hr := nextStep_range ⟨ls, ns, ages, cells, vols, next⟩
  generalize nextStep ⟨ls, ns, ages, cells, vols, next⟩ = st at *
  obtain ⟨kind, j⟩ := st
  simp only at hr ⊢
  have fin : ∀ (q : Pool) (ok : Bool), (ok = true → PBp q) → (br (!ok) (bnd (spec_l10Copy K ls ns ages cells vols next) fun y5 => some (y5.1, y5.2.1, y5.2.2.1, y5.2.2.2.1, y5.2.2.2.2.1, y5.2.2.2.2.2.1, false, ())) (bnd (spec_PoolOk K q.ls q.ns q.ages q.cells q.vols q.next) fun y6 =>
      br (!y6.1) (bnd (spec_l10Copy K ls ns ages cells vols next) fun y7 => some (y7.1, y7.2.1, y7.2.2.1, y7.2.2.2.1, y7.2.2.2.2.1, y7.2.2.2.2.2.1, false, ())) (some (q.ls, q.ns, q.ages, q.cells, q.vols, q.next, true, ()))) : Option PoolResB) = some (poolResB (endB ⟨ls, ns, ages, cells, vols, next⟩ q ok)) := by
    intro q ok hq
    rw [spec_l10Copy_eq ls ns ages cells vols next h hK, bnd_some']
    unfold endB
    cases ok
    · rfl
    · rw [spec_PoolOk_eq q.ls q.ns q.ages q.cells q.vols q.next (hq rfl) hK, bnd_some', br_not, br_not, pool_eta]
      cases poolOk q <;> rfl
  have p0 : ∀ (k : Key), spec_l11Put K ls ns ages cells vols next k.blk k.age 0 0 0 = _ := fun k => spec_l11Put_eq (K := K) ls ns ages cells vols next ⟨k.blk, k.age, 0, 0, 0⟩ h.tree h.cellsB hK
  have p3 : ∀ (k : Key), spec_TreePut K ls ns k.blk k.age 0 0 0 = _ := fun k => spec_TreePut_eq (K := K) ls ns ⟨k.blk, k.age, 0, 0, 0⟩ h.tree hK
  have main : ∀ (hj : j < (treeKeys ns).length), (kind = 1 ∨ kind = 2) → (inK (treeKeys ns) (j : Int) <| idxK (treeKeys ns) (j : Int) fun x10 => bnd (spec_l13None K ls ns ages cells vols next x10.blk x10.age x10.kind x10.cell x10.gen) fun y11 =>
      (br (!y11.1) (bnd (spec_l10Copy K ls ns ages cells vols next) fun y5 => some (y5.1, y5.2.1, y5.2.2.1, y5.2.2.2.1, y5.2.2.2.2.1, y5.2.2.2.2.2.1, false, ())) (bnd (spec_PoolOk K y11.2.1 y11.2.2.1 ages y11.2.2.2.1 vols next) fun y6 =>
      br (!y6.1) (bnd (spec_l10Copy K ls ns ages cells vols next) fun y7 => some (y7.1, y7.2.1, y7.2.2.1, y7.2.2.2.1, y7.2.2.2.2.1, y7.2.2.2.2.2.1, false, ())) (some (y11.2.1, y11.2.2.1, ages, y11.2.2.2.1, vols, next, true, ()))) : Option PoolResB)) = some (poolResB (endB ⟨ls, ns, ages, cells, vols, next⟩ (pruneOf ⟨ls, ns, ages, cells, vols, next⟩ kind j).2 (pruneOf ⟨ls, ns, ages, cells, vols, next⟩ kind j).1)) := by
    intro hj hk
    unfold pruneOf spec_l13None
    simp only
    rw [inK_nat hj, idxK_get hj, if_pos hk, List.getElem?_eq_getElem hj, p0, bnd_some']
    have hpb := putKey_pb (p := ⟨ls, ns, ages, cells, vols, next⟩) ⟨(treeKeys ns)[j].blk, (treeKeys ns)[j].age, 0, 0, 0⟩ h
    have hrest := putKey_rest ⟨ls, ns, ages, cells, vols, next⟩ ⟨(treeKeys ns)[j].blk, (treeKeys ns)[j].age, 0, 0, 0⟩
    simp only [bnd_some'] at hrest ⊢
    generalize putKey ⟨ls, ns, ages, cells, vols, next⟩ ⟨(treeKeys ns)[j].blk, (treeKeys ns)[j].age, 0, 0, 0⟩ = r at *
    have := fin r.2 r.1 fun _ => hpb
    rw [hrest.1, hrest.2.1, hrest.2.2] at this
    exact this
  rcases hr with ⟨h1, h2⟩ | ⟨h1, h2, h3⟩ | ⟨h1, h2⟩
  · subst h1 h2
    exact fin ⟨ls, ns, ages, cells, vols, next⟩ false (fun h => nomatch h)
  · by_cases k1 : kind = 1
    · rw [decide_eq_true k1, br_true, br_true]
      exact main h3 (.inl k1)
    · rw [decide_eq_false k1, br_false]
      by_cases k2 : kind = 2
      · rw [decide_eq_true k2, br_true]
        exact main h3 (.inr k2)
      · have k3 : kind = 3 := by omega
        rw [decide_eq_false k2, br_false, decide_eq_true k3, br_true, inK_nat h3, idxK_get h3, p3, bnd_some', spec_l13Kid_eq ls ns ages cells vols next _ h hK, bnd_some']
        simp only
        have p4 := spec_TreePut_eq (K := K) _ _ ⟨(treeKeys ns)[j].blk, kidAge ⟨ls, ns, ages, cells, vols, next⟩ (treeKeys ns)[j].age, (treeKeys ns)[j].kind, (treeKeys ns)[j].cell, (treeKeys ns)[j].gen⟩ (treePut_tb ⟨(treeKeys ns)[j].blk, (treeKeys ns)[j].age, 0, 0, 0⟩ h.tree) hK
        simp only at p4
        rw [p4, bnd_some']
        unfold pruneOf
        rw [if_neg (by omega), if_pos k3]
        simp only
        rw [List.getElem?_eq_getElem h3]
        simp only
        have tb := treePut_tb2 ⟨(treeKeys ns)[j].blk, (treeKeys ns)[j].age, 0, 0, 0⟩ ⟨(treeKeys ns)[j].blk, kidAge ⟨ls, ns, ages, cells, vols, next⟩ (treeKeys ns)[j].age, (treeKeys ns)[j].kind, (treeKeys ns)[j].cell, (treeKeys ns)[j].gen⟩ h.tree
        cases (treePut ls ns ⟨(treeKeys ns)[j].blk, (treeKeys ns)[j].age, 0, 0, 0⟩).2.2
        · rw [br_false, Bool.false_and]
          exact fin ⟨_, _, ages, cells, vols, next⟩ false (fun h => nomatch h)
        · rw [br_true, Bool.true_and]
          exact fin ⟨_, _, ages, cells, vols, next⟩ _ (fun _ => ⟨tb, h.agesB, h.cellsB, h.volsB, h.names⟩)
  · rw [h1, decide_eq_false (by simp), br_false, decide_eq_false (by simp), br_false, decide_eq_false (by simp), br_false, decide_eq_true rfl, br_true, inK_nat h2, idxK_get h2, spec_CutAge_eq ages _ (by have := h.agesB; omega) hK, bnd_some']
    simp only
    unfold pruneOf
    rw [if_neg (by omega), if_neg (by omega), if_pos rfl]
    simp only
    rw [List.getElem?_eq_getElem h2]
    have hl := cutAge_length ages ages[j].id
    exact fin ⟨ls, ns, (cutAge ages ages[j].id).1, cells, vols, next⟩ _ (fun _ => ⟨h.tree, by have := h.agesB; simp only; omega, h.cellsB, h.volsB, h.names⟩)
def packStep (p : Pool) (i : Int) : Pool × Bool := if poolOk p && decide (0 ≤ i ∧ i.toNat < p.ns.length) then ({ p with ns := treePack p.ns i }, true) else (p, false)
theorem spec_PackStep_eq (ls : List Int) (ns : List Node) (ages : List Age) (cells : List Cell) (vols : List Vol) (next i : Int) (h : PB ls ns ages cells vols) (hK : 2147483648 ≤ K) :
    spec_PackStep K ls ns ages cells vols next i = some (poolResB (packStep ⟨ls, ns, ages, cells, vols, next⟩ i)) := by
  unfold spec_PackStep packStep
  rw [spec_l10Copy_eq ls ns ages cells vols next h hK, bnd_some', spec_PoolOk_eq ls ns ages cells vols next h hK, bnd_some', br_not, spec_l1In_eq, bnd_some', br_not, inR_idx (by have := h.tree.2.1; omega), spec_TreePack_eq ls ns i h.tree hK, bnd_some']
  simp only
  cases poolOk ⟨ls, ns, ages, cells, vols, next⟩
  · rfl
  · cases decide (0 ≤ i ∧ i.toNat < ns.length) <;> rfl
end
end Go.Proofs.Fw.R1
set_option linter.unusedVariables false
set_option linter.unusedSimpArgs false
namespace Go.Proofs.Fw.R1
open Go.Proofs.Fw
theorem pairRes_some (i : Nat) : pairRes (some i) = (i : Int) := rfl
def isKeyOf (i : Int) (k : Key) : Bool := decide (k.kind = 1) && decide (k.cell = i)
theorem keysFit_iff {ages : List Age} {cells : List Cell} {ks : List Key} : keysFit ages cells ks = true ↔
    (∀ (j : Nat) (h : j < ks.length), (ageAt ages ks[j].age).isSome = true ∧ (ks[j].kind = 1 → (cellAt cells ks[j].cell ks[j].gen).isSome = true ∧ ∀ (m : Nat) (hm : m < j), isKeyOf ks[j].cell (ks[m]'(by omega)) = false)) ∧ dataKeys ks = usedCells cells := by
  unfold keysFit
  simp only [Bool.and_eq_true, List.all_eq_true, decide_eq_true_eq]
  constructor
  · rintro ⟨h1, h2⟩
    refine ⟨?_, h2⟩
    intro j hj
    have h := h1 j (by rw [List.mem_range'_1]; omega)
    unfold keyFit at h
    rw [List.getElem?_eq_getElem hj] at h
    simp only [Bool.and_eq_true, Bool.or_eq_true, Bool.not_eq_true', decide_eq_false_iff_not] at h
    refine ⟨h.1, fun hk => ?_⟩
    rcases h.2 with h3 | h3
    · exact absurd hk h3
    · refine ⟨h3.1, fun m hm => ?_⟩
      have h4 := h3.2
      unfold dupAt at h4
      rw [List.any_eq_false] at h4
      have := h4 (ks[m]'(by omega)) (List.mem_take_iff_getElem.2 ⟨m, by omega, rfl⟩)
      unfold isKeyOf
      simpa using this
  · rintro ⟨h1, h2⟩
    refine ⟨?_, h2⟩
    intro j hj
    rw [List.mem_range'_1] at hj
    have hj : j < ks.length := by omega
    have h := h1 j hj
    unfold keyFit
    rw [List.getElem?_eq_getElem hj]
    simp only [Bool.and_eq_true, Bool.or_eq_true, Bool.not_eq_true', decide_eq_false_iff_not]
    refine ⟨h.1, ?_⟩
    by_cases hk : ks[j].kind = 1
    · refine .inr ⟨(h.2 hk).1, ?_⟩
      unfold dupAt
      rw [List.any_eq_false]
      intro x hx
      obtain ⟨m, hm, rfl⟩ := List.mem_take_iff_getElem.1 hx
      have := (h.2 hk).2 m (by omega)
      unfold isKeyOf at this
      simpa using this
    · exact .inl hk
theorem isKeyOf_iff {i : Int} {k : Key} : isKeyOf i k = true ↔ k.kind = 1 ∧ k.cell = i := by
  unfold isKeyOf; simp
theorem cellAt_some {l : List Cell} {c g n : Int} (h : cellAt l c g = some n) : ∃ (m : Nat) (hm : m < l.length), c = m ∧ l[m].used = true ∧ l[m].gen = g ∧ l[m].n = n := by
  unfold cellAt at h
  split at h
  · rename_i h0
    obtain ⟨m, rfl⟩ := Int.eq_ofNat_of_zero_le h0
    split at h
    · rename_i x hx
      obtain ⟨hm, hx⟩ := List.getElem?_eq_some_iff.1 hx
      simp only [Int.toNat_natCast] at hm hx
      split at h
      · rename_i h1
        simp only [Bool.and_eq_true, decide_eq_true_eq] at h1
        simp only [Option.some.injEq] at h
        exact ⟨m, hm, rfl, by rw [hx]; exact h1.1, by rw [hx]; exact h1.2, by rw [hx]; exact h⟩
      · cases h
    · cases h
  · cases h
def cellIdx (ks : List Key) : List Int := (ks.filter fun k => decide (k.kind = 1)).map Key.cell
def usedIdx (cells : List Cell) : List Int := ((List.range cells.length).filter fun c => (cells.getD c ⟨0, false, 0⟩).used).map fun (c : Nat) => (c : Int)
theorem usedIdx_length (cells : List Cell) : (usedIdx cells).length = usedCells cells := by
  unfold usedIdx usedCells
  rw [List.length_map]
  have key : ∀ (l : List Cell) (s : Nat), ((List.range' s l.length).filter fun c => (l.getD (c - s) ⟨0, false, 0⟩).used).length = (l.filter Cell.used).length := by
    intro l
    induction l with
    | nil => intro s; rfl
    | cons x r ih =>
      intro s
      rw [List.length_cons, List.range'_succ, List.filter_cons, List.filter_cons]
      have e : (List.filter (fun c => ((x :: r).getD (c - s) ⟨0, false, 0⟩).used) (List.range' (s + 1) r.length)) = List.filter (fun c => (r.getD (c - (s + 1)) ⟨0, false, 0⟩).used) (List.range' (s + 1) r.length) := by
        refine List.filter_congr fun c hc => ?_
        rw [List.mem_range'_1] at hc
        rw [show c - s = (c - (s + 1)) + 1 by omega]
        rfl
      rw [e]
      simp only [Nat.sub_self, List.getD_cons_zero]
      cases x.used
      · simp only [Bool.false_eq_true, if_false]; exact ih (s + 1)
      · simp only [if_true, List.length_cons]; rw [ih (s + 1)]
  have := key cells 0
  rw [List.range_eq_range']
  simpa using this
theorem mem_usedIdx {cells : List Cell} {i : Int} : i ∈ usedIdx cells ↔ ∃ (m : Nat) (h : m < cells.length), i = m ∧ cells[m].used = true := by
  unfold usedIdx
  rw [List.mem_map]
  constructor
  · rintro ⟨c, hc, rfl⟩
    rw [List.mem_filter, List.mem_range] at hc
    refine ⟨c, hc.1, rfl, ?_⟩
    rw [getD_get hc.1] at hc
    exact hc.2
  · rintro ⟨m, h, rfl, hu⟩
    refine ⟨m, ?_, rfl⟩
    rw [List.mem_filter, List.mem_range]
    refine ⟨h, ?_⟩
    rw [getD_get h]
    exact hu
theorem cellIdx_nodup {ks : List Key} (h : ∀ (j : Nat) (h : j < ks.length), ks[j].kind = 1 → ∀ (m : Nat) (hm : m < j), isKeyOf ks[j].cell (ks[m]'(by omega)) = false) : (cellIdx ks).Nodup := by
  have hp : ks.Pairwise fun a b => a.kind = 1 → b.kind = 1 → a.cell ≠ b.cell := by
    rw [List.pairwise_iff_getElem]
    intro i j hi hj hij ha hb he
    have := h j hj hb i hij
    rw [← Bool.not_eq_true, isKeyOf_iff] at this
    exact this ⟨ha, he⟩
  unfold cellIdx
  rw [List.nodup_iff_pairwise_ne, List.pairwise_map]
  have h2 : (ks.filter fun k => decide (k.kind = 1)).Pairwise fun a b => a.kind = 1 → b.kind = 1 → a.cell ≠ b.cell := hp.filter _
  refine List.Pairwise.imp_of_mem ?_ h2
  intro a b ha hb hab
  rw [List.mem_filter, decide_eq_true_eq] at ha hb
  exact hab ha.2 hb.2
theorem cellIdx_length (ks : List Key) : (cellIdx ks).length = dataKeys ks := by
  unfold cellIdx dataKeys
  rw [List.length_map]
theorem key_of_cell {ages : List Age} {cells : List Cell} {ks : List Key} (h : keysFit ages cells ks = true) {i : Nat} (hi : i < cells.length) (hu : cells[i].used = true) :
    ∃ (t : Nat) (ht : t < ks.length), isKeyOf i ks[t] = true ∧ ∀ (j : Nat) (hj : j < ks.length), isKeyOf i ks[j] = true → j = t := by
  rw [keysFit_iff] at h
  obtain ⟨h1, h2⟩ := h
  have huniq : ∀ (a b : Nat) (ha : a < ks.length) (hb : b < ks.length), isKeyOf i ks[a] = true → isKeyOf i ks[b] = true → a < b → False := by
    intro a b ha hb hka hkb hab
    rw [isKeyOf_iff] at hkb
    have := ((h1 b hb).2 hkb.1).2 a hab
    rw [hkb.2, hka] at this
    cases this
  have hex : ∃ k ∈ ks, isKeyOf i k = true := by
    have hsub : cellIdx ks ⊆ usedIdx cells := by
      intro c hc
      unfold cellIdx at hc
      rw [List.mem_map] at hc
      obtain ⟨k, hk, rfl⟩ := hc
      rw [List.mem_filter, decide_eq_true_eq] at hk
      obtain ⟨j, hj, hjk⟩ := List.getElem_of_mem hk.1
      subst hjk
      obtain ⟨n, hn⟩ := Option.isSome_iff_exists.1 ((h1 j hj).2 hk.2).1
      obtain ⟨m, hm, h3, h4, -, -⟩ := cellAt_some hn
      exact mem_usedIdx.2 ⟨m, hm, h3, h4⟩
    have hnd : (cellIdx ks).Nodup := cellIdx_nodup fun j hj hk => ((h1 j hj).2 hk).2
    have hmem : (i : Int) ∈ cellIdx ks := by
      apply Classical.byContradiction
      intro hno
      have hsub2 : (i : Int) :: cellIdx ks ⊆ usedIdx cells := by
        intro c hc
        rcases List.mem_cons.1 hc with hc | hc
        · subst hc; exact mem_usedIdx.2 ⟨i, hi, rfl, hu⟩
        · exact hsub hc
      have := List.Nodup.length_le_of_subset (List.nodup_cons.2 ⟨hno, hnd⟩) hsub2
      rw [List.length_cons, cellIdx_length, usedIdx_length] at this
      omega
    unfold cellIdx at hmem
    rw [List.mem_map] at hmem
    obtain ⟨k, hk, hc⟩ := hmem
    rw [List.mem_filter, decide_eq_true_eq] at hk
    exact ⟨k, hk.1, isKeyOf_iff.2 ⟨hk.2, hc⟩⟩
  obtain ⟨k, hk, hk2⟩ := hex
  obtain ⟨t, ht, rfl⟩ := List.getElem_of_mem hk
  refine ⟨t, ht, hk2, ?_⟩
  intro j hj hjk
  rcases Nat.lt_trichotomy j t with h3 | h3 | h3
  · exact absurd (huniq j t hj ht hjk hk2 h3) id
  · exact h3
  · exact absurd (huniq t j ht hj hk2 hjk h3) id
theorem find_first {α : Type} {p : α → Bool} {l : List α} {t : Nat} (ht : t < l.length) (hp : p l[t] = true) (hu : ∀ (j : Nat) (hj : j < l.length), p l[j] = true → j = t) : l.find? p = some l[t] := by
  rw [List.find?_eq_some_iff_getElem]
  refine ⟨hp, t, ht, rfl, ?_⟩
  intro j hj
  have hjl : j < l.length := by omega
  cases h : p l[j]
  · rfl
  · have := hu j hjl h; omega
def moveStep (p : Pool) (i : Int) : Pool × Bool :=
  if poolOk p && decide (0 ≤ i ∧ i.toNat < p.cells.length) then match p.cells[i.toNat]? with
    | some c => if c.used then match (treeKeys p.ns).find? (isKeyOf i) with
      | some k => if (takeCell p.cells c.n).2.2 && !decide ((takeCell p.cells c.n).2.1 > i) then
          endB p { p with
            ls := (treePut p.ls p.ns ⟨k.blk, k.age, k.kind, (takeCell p.cells c.n).2.1, ((takeCell p.cells c.n).1.getD (takeCell p.cells c.n).2.1.toNat ⟨0, false, 0⟩).gen⟩).1,
            ns := (treePut p.ls p.ns ⟨k.blk, k.age, k.kind, (takeCell p.cells c.n).2.1, ((takeCell p.cells c.n).1.getD (takeCell p.cells c.n).2.1.toNat ⟨0, false, 0⟩).gen⟩).2.1,
            cells := freeCell (takeCell p.cells c.n).1 i }
            (treePut p.ls p.ns ⟨k.blk, k.age, k.kind, (takeCell p.cells c.n).2.1, ((takeCell p.cells c.n).1.getD (takeCell p.cells c.n).2.1.toNat ⟨0, false, 0⟩).gen⟩).2.2
        else (p, false)
      | none => (p, false)
      else (p, false)
    | none => (p, false)
  else (p, false)
theorem poolOk_parts {p : Pool} (h : poolOk p = true) : treeOk p.ls p.ns = true ∧ agesOk p.ages = true ∧ cellsOk p.cells = true ∧ (1 ≤ p.next ∧ p.next ≤ 61) ∧ (∀ a ∈ p.ages, a.id < p.next) ∧ volsOk p.ages p.vols = true ∧ keysFit p.ages p.cells (treeKeys p.ns) = true := by
  unfold poolOk inR at h
  simp only [Bool.and_eq_true, decide_eq_true_eq, List.all_eq_true, Bool.not_eq_true', decide_eq_false_iff_not, ge_iff_le, Int.not_le] at h
  obtain ⟨h1, h2, h3, h4, h5, h6, h7⟩ := h
  exact ⟨h1, h2, h3, h4, h5, h6, h7⟩
section
variable {K : Nat}
theorem spec_l14Key_eq (ls : List Int) (ns : List Node) (ages : List Age) (cells : List Cell) (vols : List Vol) (next i : Int) (h : TB ls ns) (hK : 2147483648 ≤ K) :
    spec_l14Key K ls ns ages cells vols next i = some ((keyZ ((treeKeys ns).find? (isKeyOf i))).blk, (keyZ ((treeKeys ns).find? (isKeyOf i))).age, (keyZ ((treeKeys ns).find? (isKeyOf i))).kind, (keyZ ((treeKeys ns).find? (isKeyOf i))).cell, (keyZ ((treeKeys ns).find? (isKeyOf i))).gen, ()) := by
  have hkl := treeKeys_length ns
  have htt := h.2.2.1
  unfold spec_l14Key
  rw [spec_TreeKeys_eq ls ns h hK, bnd_some']
  simp only
  generalize treeKeys ns = ks at *
  refine (loop_ix (fun j (_ : Unit) => (0, 0, 0, 0, 0, i, ks, (j : Int), ())) ks.length (fun _ _ => True) (fun j _ => some ((keyZ ((ks.drop j).find? (isKeyOf i))).blk, (keyZ ((ks.drop j).find? (isKeyOf i))).age, (keyZ ((ks.drop j).find? (isKeyOf i))).kind, (keyZ ((ks.drop j).find? (isKeyOf i))).cell, (keyZ ((ks.drop j).find? (isKeyOf i))).gen, ())) ?_ ?_ (Nat.zero_le _) (by omega) (j0 := 0) (a0 := ()) trivial).trans rfl
  · intro rec j _ hj _ hrec
    have hr := hrec () trivial
    simp only [Int.ofNat_lt, hj, decide_true, decide_false, br_true, br_false, br_not, bnd_some', joinK_eq, inK_nat hj, idxK_get hj, wr_succ (show j < 9223372036854775807 by omega), key_eta, hr]
    rw [drop_cons hj, List.find?_cons]
    unfold isKeyOf
    cases decide (ks[j].kind = 1)
    · rfl
    · cases decide (ks[j].cell = i) <;> rfl
  · intro rec _ _
    simp only [Int.ofNat_lt, Nat.lt_irrefl, decide_true, decide_false, br_true, br_false, br_not, bnd_some', joinK_eq, List.drop_length, key_eta]
    rfl
theorem spec_MoveStep_eq (ls : List Int) (ns : List Node) (ages : List Age) (cells : List Cell) (vols : List Vol) (next i : Int) (h : PB ls ns ages cells vols) (hK : 2147483648 ≤ K) :
    spec_MoveStep K ls ns ages cells vols next i = some (poolResB (moveStep ⟨ls, ns, ages, cells, vols, next⟩ i)) := by
  have hcb := h.cellsB
  unfold spec_MoveStep moveStep
  rw [spec_l10Copy_eq ls ns ages cells vols next h hK, bnd_some', spec_PoolOk_eq ls ns ages cells vols next h hK, bnd_some', br_not, spec_l1In_eq, bnd_some', br_not, inR_idx (by omega)]
  simp only
  cases hp : poolOk ⟨ls, ns, ages, cells, vols, next⟩
  · rfl
  rw [br_true, Bool.true_and]
  by_cases hi : 0 ≤ i ∧ i.toNat < cells.length
  case neg => rw [decide_eq_false hi, br_false]; rfl
  obtain ⟨c, rfl⟩ := Int.eq_ofNat_of_zero_le hi.1
  have hc : c < cells.length := by have := hi.2; omega
  rw [decide_eq_true hi, br_true, if_pos rfl, Int.toNat_natCast, inK_nat hc, idxK_get hc, List.getElem?_eq_getElem hc, br_not]
  simp only
  cases hu : cells[c].used
  · rfl
  rw [br_true, if_pos rfl, spec_l14Key_eq ls ns ages cells vols next c h.tree hK, bnd_some', inK_nat hc, idxK_get hc, spec_TakeCell_eq cells _ (by omega) hK, bnd_some', br_not]
  simp only
  obtain ⟨t, ht, hk, huq⟩ := key_of_cell (poolOk_parts hp).2.2.2.2.2.2 hc hu
  rw [find_first ht hk huq]
  simp only [keyZ]
  cases htk : (takeCell cells cells[c].n).2.2
  · rfl
  rw [br_true, Bool.true_and]
  cases hd : decide ((takeCell cells cells[c].n).2.1 > (c : Int))
  case true => rfl
  obtain ⟨f, hf, hfl⟩ := takeCell_true htk
  have hlen := takeCell_length cells cells[c].n
  have hfl2 : f < (takeCell cells cells[c].n).1.length := by omega
  have hft := freeCell_length (takeCell cells cells[c].n).1 c
  rw [br_false, Bool.not_false, if_pos rfl, hf, Int.toNat_natCast, inK_nat hfl2, idxK_get hfl2, getD_get hfl2]
  have p4 := spec_TreePut_eq (K := K) ls ns ⟨(treeKeys ns)[t].blk, (treeKeys ns)[t].age, (treeKeys ns)[t].kind, f, (takeCell cells cells[c].n).1[f].gen⟩ h.tree hK
  have tb := treePut_tb ⟨(treeKeys ns)[t].blk, (treeKeys ns)[t].age, (treeKeys ns)[t].kind, f, (takeCell cells cells[c].n).1[f].gen⟩ h.tree
  simp only at p4
  rw [p4, bnd_some', spec_FreeCell_eq _ c (by omega) hK, bnd_some', br_not]
  unfold endB
  simp only [bnd_some']
  generalize treePut ls ns ⟨(treeKeys ns)[t].blk, (treeKeys ns)[t].age, (treeKeys ns)[t].kind, f, (takeCell cells cells[c].n).1[f].gen⟩ = q at *
  cases q.2.2
  · rfl
  · rw [br_true, if_pos rfl, spec_PoolOk_eq q.1 q.2.1 ages _ vols next ⟨tb, h.agesB, by omega, h.volsB, h.names⟩ hK, bnd_some', br_not]
    simp only
    cases poolOk ⟨q.1, q.2.1, ages, freeCell (takeCell cells cells[c].n).1 c, vols, next⟩ <;> rfl
end
end Go.Proofs.Fw.R1
set_option linter.unusedVariables false
set_option linter.unusedSimpArgs false
namespace Go.Proofs.Fw.R1
open Go.Proofs.Fw
def opZero (o x n : Int) : Bool := if o = 2 then decide (x = 0) && inR n 0 1 else if o = 3 ∨ o = 7 then decide (x = 0) && decide (n = 0) else decide (o = 4) || decide (n = 0)
def opOk (o : Int) (s t : List Int) (x n : Int) : Bool :=
  inR o 1 9 && ((if o ≥ 7 then decide (s = []) else nameOk s) && ((if o = 2 then nameOk t else decide (t = [])) && (isWord x && (isWord n && opZero o x n))))
section
variable {K : Nat}
theorem spec_l15Zero_eq (o : Int) (s t : List Int) (x n : Int) : spec_l15Zero K o s t x n = some (opZero o x n, ()) := by
  unfold spec_l15Zero opZero
  simp only [joinK_eq, spec_l1In_eq, bnd_some']
  by_cases h2 : o = 2
  · rw [decide_eq_true h2, br_true, if_pos h2]; by_cases hx : x = 0 <;> simp [hx]
  · rw [decide_eq_false h2, br_false, if_neg h2]
    by_cases h3 : o = 3
    · rw [decide_eq_true h3, br_true, br_true, if_pos (show o = 3 ∨ o = 7 from .inl h3)]; cases decide (x = 0) <;> rfl
    · rw [decide_eq_false h3, br_false]
      by_cases h7 : o = 7
      · rw [decide_eq_true h7, br_true, if_pos (show o = 3 ∨ o = 7 from .inr h7)]; cases decide (x = 0) <;> rfl
      · rw [decide_eq_false h7, br_false, if_neg (show ¬ (o = 3 ∨ o = 7) by omega)]
        cases decide (o = 4) <;> rfl
theorem spec_OpOk_eq (o : Int) (s t : List Int) (x n : Int) (hs : s.length ≤ 1073741824) (ht : t.length ≤ 1073741824) (hK : 2147483648 ≤ K) : spec_OpOk K o s t x n = some (opOk o s t x n, ()) := by
  unfold spec_OpOk opOk
  simp only [joinK_eq, spec_NameOk_eq s hs hK, spec_NameOk_eq t ht hK, bnd_some', spec_l1In_eq, spec_l1Word_eq, spec_l15Zero_eq]
  have key : ∀ (a b : Bool), (br (inR o 1 9) (br a (br b (br (isWord x) (br (isWord n) (some (opZero o x n, ())) (some (false, ()))) (some (false, ()))) (some (false, ()))) (some (false, ()))) (some (false, ())) : Option (Bool × Unit)) = some (inR o 1 9 && (a && (b && (isWord x && (isWord n && opZero o x n)))), ()) := by
    intro a b
    cases inR o 1 9
    · rfl
    · cases a
      · rfl
      · cases b
        · rfl
        · cases isWord x
          · rfl
          · cases isWord n <;> rfl
  by_cases h7 : o ≥ 7
  · rw [decide_eq_true h7, br_true, if_pos h7]
    by_cases h2 : o = 2
    · rw [decide_eq_true h2, br_true, if_pos h2]; exact key _ _
    · rw [decide_eq_false h2, br_false, if_neg h2]; exact key _ _
  · rw [decide_eq_false h7, br_false, if_neg h7]
    by_cases h2 : o = 2
    · rw [decide_eq_true h2, br_true, if_pos h2]; exact key _ _
    · rw [decide_eq_false h2, br_false, if_neg h2]; exact key _ _
def stepOp (p : Pool) (o x : Int) : Pool × Bool := if o = 7 then pruneStep p else if o = 8 then packStep p x else moveStep p x
theorem spec_l15Step_eq (ls : List Int) (ns : List Node) (ages : List Age) (cells : List Cell) (vols : List Vol) (next o : Int) (s t : List Int) (x n : Int) (h : PB ls ns ages cells vols) (hK : 2147483648 ≤ K) :
    spec_l15Step K ls ns ages cells vols next o s t x n = some (poolResB (stepOp ⟨ls, ns, ages, cells, vols, next⟩ o x)) := by
  unfold spec_l15Step stepOp
  rw [spec_PruneStep_eq ls ns ages cells vols next h hK, spec_PackStep_eq ls ns ages cells vols next x h hK, spec_MoveStep_eq ls ns ages cells vols next x h hK]
  simp only [bnd_some', br_dec]
  split
  · rfl
  · split <;> rfl
def apply (p : Pool) (o : Int) (s t : List Int) (x n : Int) : Pool × Int :=
  if opOk o s t x n && poolOk p then
    if o = 1 then create p s x else if o = 2 then snap p s t (decide (n = 1)) else if o = 3 then kill p s else if o = 4 then write p s x n
    else if o = 5 then discard p s x else if o = 6 then resize p s x else ((stepOp p o x).1, if (stepOp p o x).2 then 0 else 2)
  else (p, 1)
theorem spec_Apply_eq (ls : List Int) (ns : List Node) (ages : List Age) (cells : List Cell) (vols : List Vol) (next o : Int) (s t : List Int) (x n : Int) (h : PB ls ns ages cells vols) (hs : s.length ≤ 67108864) (ht : t.length ≤ 67108864) (hK : 2147483648 ≤ K) :
    spec_Apply K ls ns ages cells vols next o s t x n = some (poolRes (apply ⟨ls, ns, ages, cells, vols, next⟩ o s t x n)) := by
  unfold spec_Apply apply
  rw [spec_OpOk_eq o s t x n (by omega) (by omega) hK, bnd_some', br_not, spec_l10Copy_eq ls ns ages cells vols next h hK, spec_PoolOk_eq ls ns ages cells vols next h hK, bnd_some', br_not, bnd_some']
  rw [spec_Create_eq ls ns ages cells vols next s x h hs hK, spec_Snap_eq ls ns ages cells vols next s t _ h hs ht hK, spec_Kill_eq ls ns ages cells vols next s h hs hK, spec_Write_eq ls ns ages cells vols next s x n h hs hK, spec_Discard_eq ls ns ages cells vols next s x h hs hK, spec_Resize_eq ls ns ages cells vols next s x h hs hK, spec_l15Step_eq ls ns ages cells vols next o s t x n h hK]
  simp only [bnd_some', br_dec, br_not]
  cases opOk o s t x n
  · rfl
  cases poolOk ⟨ls, ns, ages, cells, vols, next⟩
  · rfl
  simp only [br_true, Bool.and_self, if_true]
  split
  · rfl
  split
  · rfl
  split
  · rfl
  split
  · rfl
  split
  · rfl
  split
  · rfl
  generalize stepOp ⟨ls, ns, ages, cells, vols, next⟩ o x = r
  obtain ⟨q, b⟩ := r
  cases b <;> rfl
end
theorem and255 (x : Int) : 0 ≤ bitsI .and .i64 x 255 ∧ bitsI .and .i64 x 255 < 256 := by
  unfold bitsI
  simp only
  have h : (BitVec.ofInt IntKind.i64.bits x &&& BitVec.ofInt IntKind.i64.bits 255).toNat < 256 := by
    rw [BitVec.toNat_and]
    have h2 : (BitVec.ofInt IntKind.i64.bits 255).toNat = 255 := by decide
    rw [h2]
    exact Nat.lt_of_le_of_lt Nat.and_le_right (by omega)
  generalize (BitVec.ofInt IntKind.i64.bits x &&& BitVec.ofInt IntKind.i64.bits 255).toNat = m at h
  rw [wr_of (by omega) (by omega)]
  omega
def Pos (l : List Int) (p : Int) : Prop := 0 ≤ p ∧ p ≤ l.length
section
variable {K : Nat} {l : List Int}
theorem byte_ok (hl : l.length ≤ 1048576) (p c : Int) (hp : Pos l p) : ∃ v p' c', spec_l1Byte K l p c = some (v, p', c', ()) ∧ Pos l p' ∧ 0 ≤ v ∧ v < 256 := by
  obtain ⟨h1, h2⟩ := hp
  obtain ⟨j, rfl⟩ := Int.eq_ofNat_of_zero_le h1
  unfold spec_l1Byte
  simp only [joinK_eq]
  by_cases h : j < l.length
  · rw [decide_eq_true (by omega), br_true, inK_nat h, idxK_get h]
    exact ⟨_, _, _, rfl, (show Pos l (wr ((j : Int) + 1)) by rw [show wr ((j : Int) + 1) = ((j + 1 : Nat) : Int) from wr_succ (by omega)]; exact ⟨by omega, by omega⟩), and255 _⟩
  · rw [decide_eq_false (by omega), br_false]
    exact ⟨_, _, _, rfl, ⟨by omega, h2⟩, and255 _⟩
theorem below_ok (hl : l.length ≤ 1048576) (p c n : Int) (hp : Pos l p) (hn : n ≤ 1000000) : ∃ v p' c', spec_l1Below K l p c n = some (v, p', c', ()) ∧ Pos l p' ∧ 0 ≤ v ∧ (0 < n → v < n) := by
  unfold spec_l1Below
  by_cases h0 : n ≤ 0
  · rw [decide_eq_true h0, br_true]
    exact ⟨_, _, _, rfl, hp, by omega, by omega⟩
  · rw [decide_eq_false h0, br_false]
    obtain ⟨v1, p1, c1, e1, hp1, hv1, hv1'⟩ := byte_ok (K := K) hl p c hp
    obtain ⟨v2, p2, c2, e2, hp2, hv2, hv2'⟩ := byte_ok (K := K) hl p1 c1 hp1
    obtain ⟨v3, p3, c3, e3, hp3, hv3, hv3'⟩ := byte_ok (K := K) hl p2 c2 hp2
    rw [e1, bnd_some', bnd_some']
    simp only
    rw [e2, bnd_some']
    simp only
    rw [e3, bnd_some', decide_eq_true (show n ≠ 0 by omega)]
    simp only [chk_true']
    by_cases h2 : n ≤ 256
    · rw [decide_eq_true h2, br_true]
      have := Int.tmod_nonneg n hv1
      have := Int.tmod_lt_of_pos v1 (show 0 < n by omega)
      exact ⟨_, _, _, rfl, hp1, by assumption, fun _ => by assumption⟩
    · rw [decide_eq_false h2, br_false]
      have e : wr (wr (wr (v1 * 65536) + wr (v2 * 256)) + v3) = v1 * 65536 + v2 * 256 + v3 := by
        rw [show wr (v1 * 65536) = v1 * 65536 from wr_of (by omega) (by omega), show wr (v2 * 256) = v2 * 256 from wr_of (by omega) (by omega), show wr (v1 * 65536 + v2 * 256) = v1 * 65536 + v2 * 256 from wr_of (by omega) (by omega)]
        exact wr_of (by omega) (by omega)
      rw [e]
      have := Int.tmod_nonneg n (show 0 ≤ v1 * 65536 + v2 * 256 + v3 by omega)
      have := Int.tmod_lt_of_pos (v1 * 65536 + v2 * 256 + v3) (show 0 < n by omega)
      exact ⟨_, _, _, rfl, hp3, by assumption, fun _ => by assumption⟩
theorem int_ok (hl : l.length ≤ 1048576) (p c : Int) (xs : List Int) (hp : Pos l p) (h0 : 0 < xs.length) (h1 : xs.length ≤ 1000000) : ∃ v p' c', spec_l1Int K l p c xs = some (v, p', c', ()) ∧ Pos l p' ∧ v ∈ xs := by
  unfold spec_l1Int
  obtain ⟨v, p1, c1, e, hp1, hv, hv'⟩ := below_ok (K := K) hl p c xs.length hp (by omega)
  obtain ⟨j, rfl⟩ := Int.eq_ofNat_of_zero_le hv
  have hj : j < xs.length := by have := hv' (by omega); omega
  rw [e, bnd_some']
  simp only
  rw [inK_nat hj, idxK_get hj]
  exact ⟨_, _, _, rfl, hp1, List.getElem_mem hj⟩
theorem str_ok (hl : l.length ≤ 1048576) (p c : Int) (xs : List (List Int)) (hp : Pos l p) (h0 : 0 < xs.length) (h1 : xs.length ≤ 1000000) : ∃ v p' c', spec_l1Str K l p c xs = some (v, p', c', ()) ∧ Pos l p' ∧ v ∈ xs := by
  unfold spec_l1Str
  obtain ⟨v, p1, c1, e, hp1, hv, hv'⟩ := below_ok (K := K) hl p c xs.length hp (by omega)
  obtain ⟨j, rfl⟩ := Int.eq_ofNat_of_zero_le hv
  have hj : j < xs.length := by have := hv' (by omega); omega
  rw [e, bnd_some']
  simp only
  rw [inK_nat hj, idxK_get hj]
  exact ⟨_, _, _, rfl, hp1, List.getElem_mem hj⟩
theorem name_ok (hl : l.length ≤ 1048576) (p c : Int) (hp : Pos l p) : ∃ v p' c', spec_l1Name K l p c = some (v, p', c', ()) ∧ Pos l p' ∧ v.length ≤ 2 := by
  unfold spec_l1Name
  obtain ⟨v, p1, c1, e, hp1, hv⟩ := str_ok (K := K) hl p c [[97], [98], [99], [100], [101, 53]] hp (by decide) (by decide)
  rw [e, bnd_some']
  refine ⟨_, _, _, rfl, hp1, ?_⟩
  simp only [List.mem_cons, List.not_mem_nil, or_false] at hv
  rcases hv with rfl | rfl | rfl | rfl | rfl <;> simp
theorem draw_ok (hl : l.length ≤ 1048576) (p c : Int) (hp : Pos l p) : ∃ v p' c', spec_l1Draw K l p c = some (v, p', c', ()) ∧ Pos l p' := by
  unfold spec_l1Draw
  obtain ⟨v, p1, c1, e, hp1, -⟩ := below_ok (K := K) hl p c 200 hp (by omega)
  rw [e, bnd_some']
  simp only
  obtain ⟨v2, p2, c2, e2, hp2, -⟩ := int_ok (K := K) hl p1 c1 [0, 1, 2, 7, 65535, wr (1 + v)] hp1 (by simp) (by simp)
  rw [e2, bnd_some']
  exact ⟨_, _, _, rfl, hp2⟩
theorem new_ok (hl : l.length ≤ 1048576) (hK : 2147483648 ≤ K) : ∃ c, spec_l1New_v K l = some (l, 0, c, ()) := by
  unfold spec_l1New_v
  have key : ∀ (m j : Nat) (a : Int) (K : Nat), m + j = l.length → m < K → ∃ c, loopFix K (fun r1 (s0 : Int × List (Int) × Int × Unit) =>
      br (decide (s0.2.2.1 < (List.length s0.2.1 : Int))) (
       br (decide (s0.2.2.1 < (4000:Int))) (
        inK s0.2.1 s0.2.2.1 <|
        idxK s0.2.1 s0.2.2.1 fun x2 =>
        r1 ((bitsI .and .i64 (wr ((wr ((wr (s0.1 * (137:Int))) + (wr (x2)))) + (11:Int))) (1073741823:Int)), s0.2.1, (wr (s0.2.2.1 + (1:Int))), ())) (
        some (s0.2.1, (0:Int), s0.1, ()))) (
       some (s0.2.1, (0:Int), s0.1, ()))) (a, l, (j : Int), ()) = some (l, 0, c, ()) := by
    intro m
    induction m with
    | zero =>
      intro j a K h1 h2
      obtain ⟨K', rfl⟩ : ∃ K', K = K' + 1 := ⟨K - 1, by omega⟩
      refine ⟨a, ?_⟩
      show br _ _ _ = _
      rw [decide_eq_false (by simp only; omega)]; rfl
    | succ m ih =>
      intro j a K h1 h2
      obtain ⟨K', rfl⟩ : ∃ K', K = K' + 1 := ⟨K - 1, by omega⟩
      have hj : j < l.length := by omega
      show ∃ c, br _ _ _ = _
      simp only
      rw [decide_eq_true (show (j : Int) < l.length by omega), br_true]
      by_cases h4 : (j : Int) < 4000
      · rw [decide_eq_true h4, br_true, inK_nat hj, idxK_get hj, show wr ((j : Int) + 1) = ((j + 1 : Nat) : Int) from wr_succ (by omega)]
        exact ih (j + 1) _ K' (by omega) (by omega)
      · rw [decide_eq_false h4, br_false]
        exact ⟨_, rfl⟩
  exact key l.length 0 _ K (by omega) (by omega)
theorem size_ok (hl : l.length ≤ 1048576) (n : Int) (h0 : 0 ≤ n) (h1 : n ≤ 1000) : ∃ v, spec_l1Size K l n = some (v, ()) ∧ 0 ≤ v ∧ v ≤ n := by
  unfold spec_l1Size
  have h2 : Int.tdiv (l.length : Int) 12 = ((l.length / 12 : Nat) : Int) := by rw [show (12 : Int) = ((12 : Nat) : Int) from rfl, ← Int.ofNat_tdiv]
  have e : wr (3 + wr (Int.tdiv (l.length : Int) 12)) = 3 + ((l.length / 12 : Nat) : Int) := by
    rw [h2, show wr ((l.length / 12 : Nat) : Int) = ((l.length / 12 : Nat) : Int) from wr_nat (by omega)]
    exact wr_of (by omega) (by omega)
  rw [e]
  by_cases h : 3 + ((l.length / 12 : Nat) : Int) > n
  · rw [decide_eq_true h, br_true]; exact ⟨_, rfl, h0, Int.le_refl _⟩
  · rw [decide_eq_false h, br_false]; exact ⟨_, rfl, by omega, by omega⟩
end
end Go.Proofs.Fw.R1
set_option linter.unusedVariables false
set_option linter.unusedSimpArgs false
namespace Go.Proofs.Fw.R1
open Go.Proofs.Fw
theorem setPut_last {l : List Key} {k : Key} (h : Sorted (l ++ [k])) : setPut l k = l ++ [k] := by
  unfold Sorted at h
  rw [List.pairwise_append] at h
  obtain ⟨h1, h2, h3⟩ := h
  have h4 : ∀ x ∈ l, lessKey x k = true := fun x hx => h3 x hx k (List.mem_singleton.2 rfl)
  rw [setPut_eq h1]
  have e1 : l.filter (fun x => lessKey x k) = l := List.filter_eq_self.2 h4
  have e2 : l.filter (fun x => lessKey k x) = [] := List.filter_eq_nil_iff.2 fun x hx => by simp [(less_irr (h4 x hx)).2]
  rw [e1, e2]
theorem mergeSets_sorted : ∀ (l a : List Key), Sorted (a ++ l) → mergeSets a l = a ++ l
  | [], a, _ => by simp [mergeSets]
  | k :: r, a, h => by
    have h2 : Sorted ((a ++ [k]) ++ r) := by simpa using h
    have h1 : Sorted (a ++ [k]) := by
      unfold Sorted at h2 ⊢
      exact (List.pairwise_append.1 h2).1
    show mergeSets (setPut a k) r = _
    rw [setPut_last h1, mergeSets_sorted r (a ++ [k]) h2]
    simp
theorem dropNone_idem (l : List Key) : dropNone (dropNone l) = dropNone l := by
  unfold dropNone
  rw [List.filter_filter]
  simp
theorem nodeKeys_pack (n : Sets) : nodeKeys (nodePack n) = nodeKeys n := by
  unfold nodePack nodeNew
  split
  · rename_i h
    rw [List.length_eq_zero_iff] at h
    rw [h]; rfl
  · have h1 : nodeKeys [nodeKeys n] = dropNone (mergeSets [] (nodeKeys n)) := rfl
    rw [h1, mergeSets_sorted _ _ (by simpa using sorted_nodeKeys n), List.nil_append]
    unfold nodeKeys
    exact dropNone_idem _
theorem treePack_keys (ns : List Node) (i : Int) : treeKeys (treePack ns i) = treeKeys ns := by
  unfold treePack
  split
  · rename_i x hx
    split
    · obtain ⟨hi, hx⟩ := List.getElem?_eq_some_iff.1 hx
      unfold treeKeys
      rw [List.set_eq_take_append_cons_drop, if_pos hi, List.flatMap_append, List.flatMap_cons, nodeKeys_pack]
      conv => rhs; rw [← List.take_append_drop i.toNat ns, List.flatMap_append, drop_cons hi, List.flatMap_cons]
      rw [hx]
    · rfl
  · rfl
theorem nodePack_ok {n : Sets} (h : nodeOk n = true) : nodeOk (nodePack n) = true := by
  have h1 := nodeOk_iff.1 h
  have h2 := nodeKeys_length n
  exact nodeNew_ok (sorted_nodeKeys n) (all_nodeKeys (nodeOk_keys h)) (by omega)
theorem nodePack_in {ls : List Int} {i : Nat} {lo : Int} {n : Sets} (h : inBounds ls i lo n = true) : inBounds ls i lo (nodePack n) = true := by
  unfold inBounds at h ⊢
  rw [List.all_eq_true] at h ⊢
  intro l hl
  unfold nodePack nodeNew at hl
  split at hl
  · cases hl
  · rw [List.mem_singleton] at hl
    subst hl
    rw [List.all_eq_true]
    exact all_nodeKeys fun l' hl' x hx => List.all_eq_true.1 (h l' hl') x hx
theorem treePack_good {ls : List Int} {ns : List Node} (i : Int) (h : TreeGood ls ns) : TreeGood ls (treePack ns i) := by
  have hk := treePack_keys ns i
  have hlen : (treePack ns i).length = ns.length := by
    unfold treePack
    split
    · split <;> simp
    · rfl
  refine ⟨by have := h.pos; omega, by have := h.le; omega, by have := h.len; omega, h.zero, ?_, by rw [hk]; exact h.keys⟩
  intro j h1 h2
  have hj : j < ns.length := by omega
  obtain ⟨h3, h4⟩ := h.each j hj h2
  refine ⟨h3, ?_⟩
  have key : ∀ (y : Node), y.sets = ns[j].sets ∨ y.sets = nodePack ns[j].sets → l6Node ls j ls[j] y.sets = true := by
    intro y hy
    rcases hy with hy | hy
    · rw [hy]; exact h4
    · rw [hy]
      unfold l6Node at h4 ⊢
      simp only [Bool.and_eq_true] at h4 ⊢
      refine ⟨nodePack_ok h4.1, ?_, nodePack_in h4.2.2⟩
      rw [nodeKeys_pack]
      exact h4.2.1
  apply key
  have : ∀ (m : List Node) (hm : treePack ns i = m) (hjm : j < m.length), m[j].sets = ns[j].sets ∨ m[j].sets = nodePack ns[j].sets := by
    intro m hm hjm
    unfold treePack at hm
    split at hm
    · rename_i x hx
      obtain ⟨hi, hx⟩ := List.getElem?_eq_some_iff.1 hx
      split at hm
      · subst hm
        rw [List.getElem_set]
        split
        · rename_i he
          subst he
          rw [hx]
          exact .inr rfl
        · exact .inl rfl
      · subst hm; exact .inl rfl
    · subst hm; exact .inl rfl
  exact this _ rfl h1
theorem packStep_ok {p : Pool} (i : Int) (h : poolOk p = true) : poolOk (packStep p i).1 = true := by
  unfold packStep
  split
  · unfold poolOk at h ⊢
    simp only [Bool.and_eq_true] at h ⊢
    refine ⟨treeOk_iff.2 (treePack_good i (treeOk_iff.1 h.1)), h.2.1, h.2.2.1, h.2.2.2.1, h.2.2.2.2.1, h.2.2.2.2.2.1, ?_⟩
    rw [treePack_keys]
    exact h.2.2.2.2.2.2
  · exact h
theorem endOp_ok {p q : Pool} {ok : Bool} (h : poolOk p = true) : poolOk (endOp p q ok).1 = true := by
  unfold endOp
  split
  · split
    · assumption
    · exact h
  · exact h
theorem endB_ok {p q : Pool} {ok : Bool} (h : poolOk p = true) : poolOk (endB p q ok).1 = true := by
  unfold endB
  split
  · split
    · assumption
    · exact h
  · exact h
theorem create_ok {p : Pool} (s : List Int) (z : Int) (h : poolOk p = true) : poolOk (create p s z).1 = true := by
  unfold create
  split
  · split
    · exact h
    · split
      · exact endOp_ok h
      · exact h
  · exact h
theorem snap_ok {p : Pool} (s t : List Int) (f : Bool) (h : poolOk p = true) : poolOk (snap p s t f).1 = true := by
  unfold snap
  split
  · split
    · split
      · exact h
      · split
        · exact h
        · split
          · exact h
          · exact endOp_ok h
    · exact h
  · exact h
theorem kill_ok {p : Pool} (s : List Int) (h : poolOk p = true) : poolOk (kill p s).1 = true := by
  unfold kill
  split
  · split
    · exact endOp_ok h
    · exact h
  · exact h
theorem write_ok {p : Pool} (s : List Int) (b n : Int) (h : poolOk p = true) : poolOk (write p s b n).1 = true := by
  unfold write
  split
  · split
    · split
      · split
        · split
          · exact endOp_ok h
          · exact h
        · exact h
      · exact h
    · exact h
  · exact h
theorem discard_ok {p : Pool} (s : List Int) (b : Int) (h : poolOk p = true) : poolOk (discard p s b).1 = true := by
  unfold discard
  split
  · split
    · split
      · exact endOp_ok h
      · exact h
    · exact h
  · exact h
theorem resize_ok {p : Pool} (s : List Int) (z : Int) (h : poolOk p = true) : poolOk (resize p s z).1 = true := by
  unfold resize
  split
  · split
    · split
      · split
        · exact endOp_ok h
        · exact h
      · exact h
    · exact h
  · exact h
theorem moveStep_ok {p : Pool} (i : Int) (h : poolOk p = true) : poolOk (moveStep p i).1 = true := by
  unfold moveStep
  split
  · split
    · split
      · split
        · split
          · exact endB_ok h
          · exact h
        · exact h
      · exact h
    · exact h
  · exact h
theorem stepOp_ok {p : Pool} (o x : Int) (h : poolOk p = true) : poolOk (stepOp p o x).1 = true := by
  unfold stepOp
  split
  · exact endB_ok h
  · split
    · exact packStep_ok x h
    · exact moveStep_ok x h
theorem apply_ok {p : Pool} (o : Int) (s t : List Int) (x n : Int) (h : poolOk p = true) : poolOk (apply p o s t x n).1 = true := by
  unfold apply
  split
  · split
    · exact create_ok s x h
    · split
      · exact snap_ok s t _ h
      · split
        · exact kill_ok s h
        · split
          · exact write_ok s x n h
          · split
            · exact discard_ok s x h
            · split
              · exact resize_ok s x h
              · exact stepOp_ok o x h
  · exact h
def Ok {α : Type} (Q : α → Prop) (o : Option α) : Prop := ∃ a, o = some a ∧ Q a
section
variable {α β S R : Type} {Q : R → Prop} {P : α → Prop}
theorem ok_some {a : R} (h : Q a) : Ok Q (some a) := ⟨a, rfl, h⟩
theorem ok_eq {a : R} {o : Option R} (e : o = some a) (h : Q a) : Ok Q o := ⟨a, e, h⟩
theorem ok_bnd {o : Option α} {k : α → Option R} (h : Ok P o) (hk : ∀ a, P a → Ok Q (k a)) : Ok Q (bnd o k) := by
  obtain ⟨a, rfl, ha⟩ := h
  exact hk a ha
theorem ok_bnd_eq {o : Option α} {a : α} {k : α → Option R} (e : o = some a) (hk : Ok Q (k a)) : Ok Q (bnd o k) := by
  subst e; exact hk
theorem ok_br {c : Bool} {a b : Option R} (h1 : c = true → Ok Q a) (h2 : c = false → Ok Q b) : Ok Q (br c a b) := by
  cases c
  · exact h2 rfl
  · exact h1 rfl
theorem ok_dec {p : Prop} [Decidable p] {a b : Option R} (h1 : p → Ok Q a) (h2 : ¬ p → Ok Q b) : Ok Q (br (decide p) a b) :=
  ok_br (fun h => h1 (of_decide_eq_true h)) (fun h => h2 (of_decide_eq_false h))
theorem ok_join {f : S → Option R} {g : (S → Option R) → Option R} (P : S → Prop) (h1 : ∀ s, P s → Ok Q (f s)) (h2 : ∀ j : S → Option R, (∀ s, P s → Ok Q (j s)) → Ok Q (g j)) : Ok Q (joinK f g) := h2 f h1
theorem ok_loop {K : Nat} {F : (S → Option R) → S → Option R} (Inv : S → Prop) (μ : S → Nat) {s : S}
    (hstep : ∀ (rec : S → Option R) (s : S), Inv s → (∀ s', Inv s' → μ s' < μ s → Ok Q (rec s')) → Ok Q (F rec s)) (hK : μ s < K) (h0 : Inv s) : Ok Q (loopFix K F s) := by
  have key : ∀ (n : Nat) (s : S) (K : Nat), μ s = n → n < K → Inv s → Ok Q (loopFix K F s) := by
    intro n
    induction n using Nat.strongRecOn with
    | _ n ih =>
      intro s K h1 h2 h3
      obtain ⟨K', rfl⟩ : ∃ K', K = K' + 1 := ⟨K - 1, by omega⟩
      exact hstep _ s h3 fun s' h4 h5 => ih (μ s') (by omega) s' K' rfl (by omega) h4
  exact key _ s K rfl hK h0
end
section
variable {K : Nat} {l : List Int}
theorem below_w (hl : l.length ≤ 1048576) (p c n : Int) (hp : Pos l p) (hn : n ≤ 1000000) : Ok (fun y => Pos l y.2.1 ∧ 0 ≤ y.1 ∧ (0 < n → y.1 < n)) (spec_l1Below K l p c n) := by
  obtain ⟨v, p', c', e, h1, h2, h3⟩ := below_ok (K := K) hl p c n hp hn
  exact ⟨_, e, h1, h2, h3⟩
theorem int_w (hl : l.length ≤ 1048576) (p c : Int) (xs : List Int) (hp : Pos l p) (h0 : 0 < xs.length) (h1 : xs.length ≤ 1000000) : Ok (fun y => Pos l y.2.1 ∧ y.1 ∈ xs) (spec_l1Int K l p c xs) := by
  obtain ⟨v, p', c', e, h1, h2⟩ := int_ok (K := K) hl p c xs hp h0 h1
  exact ⟨_, e, h1, h2⟩
theorem str_w (hl : l.length ≤ 1048576) (p c : Int) (xs : List (List Int)) (hp : Pos l p) (h0 : 0 < xs.length) (h1 : xs.length ≤ 1000000) : Ok (fun y => Pos l y.2.1 ∧ y.1 ∈ xs) (spec_l1Str K l p c xs) := by
  obtain ⟨v, p', c', e, h1, h2⟩ := str_ok (K := K) hl p c xs hp h0 h1
  exact ⟨_, e, h1, h2⟩
theorem name_w (hl : l.length ≤ 1048576) (p c : Int) (hp : Pos l p) : Ok (fun y => Pos l y.2.1 ∧ y.1.length ≤ 2) (spec_l1Name K l p c) := by
  obtain ⟨v, p', c', e, h1, h2⟩ := name_ok (K := K) hl p c hp
  exact ⟨_, e, h1, h2⟩
theorem draw_w (hl : l.length ≤ 1048576) (p c : Int) (hp : Pos l p) : Ok (fun y => Pos l y.2.1) (spec_l1Draw K l p c) := by
  obtain ⟨v, p', c', e, h1⟩ := draw_ok (K := K) hl p c hp
  exact ⟨_, e, h1⟩
abbrev OpRes := Int × List Int × List Int × Int × Int × Int × Int × Unit
def OpDrawn (l : List Int) (y : OpRes) : Prop := Pos l y.2.2.2.2.2.1 ∧ y.2.1.length ≤ 2 ∧ y.2.2.1.length ≤ 2
theorem opDraw_w (hl : l.length ≤ 1048576) (p c : Int) (hp : Pos l p) : Ok (OpDrawn l) (spec_l15Draw K l p c) := by
  unfold spec_l15Draw
  refine ok_bnd (int_w hl p c _ hp (by decide) (by decide)) fun y hy => ?_
  refine ok_join (fun s => s.2.2.2.2.2.2.2.2.2.2.1 = l ∧ Pos l s.2.2.2.2.2.2.2.2.2.2.2.1 ∧ s.2.2.2.1.length ≤ 2 ∧ s.2.2.1.length ≤ 2) ?_ ?_
  · rintro ⟨a1, a2, a3, a4, a5, a6, a7, a8, a9, a10, a11, a12, a13, u⟩ ⟨h1, h2, h3, h4⟩
    simp only at h1 h2 h3 h4 ⊢
    subst h1
    refine ok_join (fun s => s.2.2.2.2.2.2.2.2.2.2.1 = a11 ∧ Pos a11 s.2.2.2.2.2.2.2.2.2.2.2.1 ∧ s.2.2.2.1.length ≤ 2 ∧ s.2.2.1.length ≤ 2) ?_ ?_
    · rintro s ⟨h1, h2, h3, h4⟩
      exact ok_some ⟨h2, h3, h4⟩
    · intro j hj
      refine ok_join (fun s => s.2.2.2.2.2.2.2.2.2.2.2.2.1 = a11 ∧ Pos a11 s.2.2.2.2.2.2.2.2.2.2.2.2.2.1 ∧ s.2.2.2.1.length ≤ 2 ∧ s.2.2.1.length ≤ 2) ?_ ?_
      · rintro ⟨b1, b2, b3, b4, b5, b6, b7, b8, b9, b10, b11, b12, b13, b14, b15, u⟩ ⟨g1, g2, g3, g4⟩
        simp only at g1 g2 g3 g4 ⊢
        subst g1
        refine ok_br (fun _ => ?_) (fun _ => ?_)
        · exact ok_bnd (int_w hl _ _ _ g2 (by simp) (by simp)) fun y hy => hj _ ⟨rfl, hy.1, g3, g4⟩
        refine ok_br (fun _ => ?_) (fun _ => ?_)
        · refine ok_bnd (name_w hl _ _ g2) fun y hy => ?_
          exact ok_bnd (int_w hl _ _ _ hy.1 (by simp) (by simp)) fun z hz => hj _ ⟨rfl, hz.1, g3, hy.2⟩
        refine ok_br (fun _ => ?_) (fun _ => ?_)
        · refine ok_bnd (below_w hl _ _ _ g2 (by omega)) fun y hy => ?_
          exact ok_bnd (draw_w hl _ _ hy.1) fun z hz => hj _ ⟨rfl, hz, g3, g4⟩
        refine ok_br (fun _ => ?_) (fun _ => ?_)
        · exact ok_bnd (below_w hl _ _ _ g2 (by omega)) fun y hy => hj _ ⟨rfl, hy.1, g3, g4⟩
        refine ok_join (fun s => s.2.2.2.2.2.2.2.2.2.2.2.1 = b13 ∧ Pos b13 s.2.2.2.2.2.2.2.2.2.2.2.2.1 ∧ s.2.2.2.1.length ≤ 2 ∧ s.2.2.1.length ≤ 2) ?_ ?_
        · rintro ⟨c1, c2, c3, c4, c5, c6, c7, c8, c9, c10, c11, c12, c13, c14, u⟩ ⟨k1, k2, k3, k4⟩
          simp only at k1 k2 k3 k4 ⊢
          subst k1
          refine ok_br (fun _ => ?_) (fun _ => ?_)
          · exact ok_bnd (below_w hl _ _ _ k2 (by omega)) fun y hy => hj _ ⟨rfl, hy.1, k3, k4⟩
          · exact hj _ ⟨rfl, k2, k3, k4⟩
        · intro j3 hj3
          exact ok_br (fun _ => hj3 _ ⟨rfl, g2, g3, g4⟩) (fun _ => hj3 _ ⟨rfl, g2, g3, g4⟩)
      · intro j2 hj2
        exact ok_br (fun _ => hj2 _ ⟨rfl, h2, h3, h4⟩) (fun _ => hj2 _ ⟨rfl, h2, h3, h4⟩)
  · intro j hj
    refine ok_br (fun _ => ?_) (fun _ => ?_)
    · refine ok_bnd (str_w hl _ _ _ hy.1 (by decide) (by decide)) fun z hz => hj _ ⟨rfl, hz.1, ?_, by simp⟩
      have := hz.2
      simp only [List.mem_cons, List.not_mem_nil, or_false] at this
      rcases this with h | h | h | h | h <;> rw [h] <;> simp
    · exact hj _ ⟨rfl, hy.1, by simp, by simp⟩
end
end Go.Proofs.Fw.R1
set_option linter.unusedVariables false
set_option linter.unusedSimpArgs false
namespace Go.Proofs.Fw.R1
open Go.Proofs.Fw
section
variable {K : Nat} {l : List Int}
theorem ok_down {S R : Type} {Q : R → Prop} {F : (S → Option R) → S → Option R} (cnt : S → Int) (Inv : S → Prop) {s : S}
    (hstep : ∀ (rec : S → Option R) (s : S), Inv s → (∀ s', Inv s' → 0 < cnt s → cnt s' = cnt s - 1 → Ok Q (rec s')) → Ok Q (F rec s)) (hK : (cnt s).toNat < K) (h0 : Inv s) : Ok Q (loopFix K F s) :=
  ok_loop (Q := Q) Inv (fun s => (cnt s).toNat) (fun rec s hs hrec => hstep rec s hs fun s' h1 h2 h3 => hrec s' h1 (by omega)) hK h0
theorem wr_dec {n : Int} (h0 : 0 < n) (h1 : n ≤ 1000000) : wr (n - 1) = n - 1 := wr_of (by omega) (by omega)
def ST (ls : List Int) (ns : List Node) (m : Nat) : Prop := ls.length ≤ m ∧ ns.length ≤ m ∧ ttotal ns ≤ m ∧ ∀ x ∈ ns, x.sets.length ≤ m
theorem ST.tb {ls : List Int} {ns : List Node} {m : Nat} (h : ST ls ns m) (hm : m ≤ 67108864) : TB ls ns :=
  ⟨by have := h.1; omega, by have := h.2.1; omega, by have := h.2.2.1; omega, fun x hx => by have := h.2.2.2 x hx; omega⟩
theorem cellsNew_eq : spec_CellsNew K = some (List.replicate 24 ⟨0, false, 0⟩, ()) := by
  unfold spec_CellsNew
  rw [makeK_ok (n := (24 : Int)) (m := 24) rfl (by omega)]
  rfl
abbrev PoolDraw := List Int × List Node × List Age × List Cell × List Vol × Int × Int × Int × Unit
def poolOf (y : PoolDraw) : Pool := ⟨y.1, y.2.1, y.2.2.1, y.2.2.2.1, y.2.2.2.2.1, y.2.2.2.2.2.1⟩
def poolNew : Pool := ⟨[0], [⟨[]⟩], [], List.replicate 24 ⟨0, false, 0⟩, [], 1⟩
theorem poolNew_eq : spec_PoolNew K = some (poolNew.ls, poolNew.ns, poolNew.ages, poolNew.cells, poolNew.vols, poolNew.next, ()) := by
  unfold spec_PoolNew
  rw [cellsNew_eq]
  rfl
theorem poolNew_ok : poolOk poolNew = true := by decide
theorem l10Draw_w (hl : l.length ≤ 1048576) (p c n : Int) (hp : Pos l p) (hn0 : 0 ≤ n) (hn : n ≤ 1000) (hK : 2147483648 ≤ K) : Ok (fun y => Pos l y.2.2.2.2.2.2.1 ∧ poolOk (poolOf y) = true) (spec_l10Draw K l p c n) := by
  unfold spec_l10Draw
  rw [show wr (n + 1) = n + 1 from wr_of (by omega) (by omega)]
  refine ok_bnd_eq poolNew_eq ?_
  refine ok_bnd (below_w hl _ _ _ hp (by omega)) fun y hy => ?_
  have := hy.2.2 (by omega)
  refine ok_down (fun s => s.2.2.2.2.2.2.2.2.2.2.2.2.1) (fun s => poolOk ⟨s.2.2.2.2.2.2.2.2.2.2.2.1, s.2.2.2.2.2.2.2.2.2.2.1, s.2.2.2.2.2.2.2.2.2.1, s.2.2.2.2.2.2.2.2.1, s.2.2.2.2.2.2.2.1, s.2.2.2.2.2.2.1⟩ = true ∧ s.2.2.2.2.2.2.2.2.2.2.2.2.1 ≤ 1001 ∧ s.2.2.2.2.2.2.2.2.2.2.2.2.2.1 = l ∧ Pos l s.2.2.2.2.2.2.2.2.2.2.2.2.2.2.1) ?_ (show y.1.toNat < K by omega) ⟨poolNew_ok, by simp only; omega, rfl, hy.1⟩
  rintro rec ⟨z1, z2, z3, z4, z5, z6, next, vols, cells, ages, ns, ls, m, l', q, d, u⟩ ⟨h1, h2, h3, h4⟩ hrec
  simp only at h1 h2 h3 h4 hrec ⊢
  subst h3
  refine ok_dec (fun h => ?_) (fun h => ok_some ⟨h4, h1⟩)
  refine ok_bnd (opDraw_w hl _ _ h4) fun o ho => ?_
  have hb := (poolOk_pb h1).1
  refine ok_bnd_eq (spec_Apply_eq ls ns ages cells vols next o.1 o.2.1 o.2.2.1 o.2.2.2.1 o.2.2.2.2.1 hb (by have := ho.2.1; omega) (by have := ho.2.2; omega) hK) ?_
  rw [wr_dec h (by omega)]
  exact hrec _ ⟨apply_ok _ _ _ _ _ h1, by simp only; omega, rfl, ho.1⟩ h rfl
end
end Go.Proofs.Fw.R1
set_option linter.unusedVariables false
set_option linter.unusedSimpArgs false
namespace Go.Proofs.Fw.R1
open Go.Proofs.Fw
section
variable {K : Nat}
theorem dec_self (n : Int) : decide (n ≠ n) = false := decide_eq_false (by simp)
theorem sameInts_refl (l : List Int) (h : l.length ≤ 1073741824) (hK : 2147483648 ≤ K) : laws_sameInts K l l = some (true, ()) := by
  unfold laws_sameInts
  rw [dec_self, br_false]
  refine (loop_ix (fun j (_ : Unit) => (l, l, (j : Int), ())) l.length (fun _ _ => True) (fun _ _ => some (true, ())) ?_ ?_ (Nat.zero_le _) (by omega) (j0 := 0) (a0 := ()) trivial).trans rfl
  · intro rec j _ hj _ hrec
    have hr := hrec () trivial
    simp only [Int.ofNat_lt, hj, decide_true, decide_false, br_true, br_false, br_not, bnd_some', joinK_eq, inK_nat hj, idxK_get hj, wr_succ (show j < 9223372036854775807 by omega), key_eta, dec_self, hr]
  · intro rec _ _
    simp only [Int.ofNat_lt, Nat.lt_irrefl, decide_true, decide_false, br_true, br_false, br_not, bnd_some', joinK_eq, List.drop_length, key_eta]
theorem sameKeys_refl (l : List Key) (h : l.length ≤ 1073741824) (hK : 2147483648 ≤ K) : laws_sameKeys K l l = some (true, ()) := by
  unfold laws_sameKeys
  rw [dec_self, br_false]
  refine (loop_ix (fun j (_ : Unit) => (l, l, (j : Int), ())) l.length (fun _ _ => True) (fun _ _ => some (true, ())) ?_ ?_ (Nat.zero_le _) (by omega) (j0 := 0) (a0 := ()) trivial).trans rfl
  · intro rec j _ hj _ hrec
    have hr := hrec () trivial
    simp only [Int.ofNat_lt, hj, decide_true, decide_false, br_true, br_false, br_not, bnd_some', joinK_eq, inK_nat hj, idxK_get hj, wr_succ (show j < 9223372036854775807 by omega), key_eta, hr, Bool.and_self, Bool.xor_self]
  · intro rec _ _
    simp only [Int.ofNat_lt, Nat.lt_irrefl, decide_true, decide_false, br_true, br_false, br_not, bnd_some', joinK_eq, List.drop_length, key_eta]
theorem sameNode_refl (l : Sets) (h : NB l) (hK : 2147483648 ≤ K) : laws_sameNode K l l = some (true, ()) := by
  obtain ⟨h1, h2⟩ := h
  unfold laws_sameNode
  rw [dec_self, br_false]
  refine (loop_ix (fun j (_ : Unit) => (l, l, (j : Int), ())) l.length (fun _ _ => True) (fun _ _ => some (true, ())) ?_ ?_ (Nat.zero_le _) (by omega) (j0 := 0) (a0 := ()) trivial).trans rfl
  · intro rec j _ hj _ hrec
    have hr := hrec () trivial
    have hm := mem_total (List.getElem_mem hj)
    simp only [Int.ofNat_lt, hj, decide_true, decide_false, br_true, br_false, br_not, bnd_some', joinK_eq, inK_nat hj, idxK_get hj, wr_succ (show j < 9223372036854775807 by omega), key_eta, hr, sameKeys_refl l[j] (by omega) hK]
  · intro rec _ _
    simp only [Int.ofNat_lt, Nat.lt_irrefl, decide_true, decide_false, br_true, br_false, br_not, bnd_some', joinK_eq, List.drop_length, key_eta]
theorem sameTree_refl (ls : List Int) (ns : List Node) (h : TB ls ns) (hK : 2147483648 ≤ K) : laws_sameTree K ls ns ls ns = some (true, ()) := by
  have hT := h
  obtain ⟨h1, h2, h3, h4⟩ := h
  unfold laws_sameTree
  rw [sameInts_refl ls (by omega) hK, bnd_some', br_not, br_true, dec_self, br_false]
  refine (loop_ix (fun j (_ : Unit) => (ns, ls, ns, ls, (j : Int), ())) ns.length (fun _ _ => True) (fun _ _ => some (true, ())) ?_ ?_ (Nat.zero_le _) (by omega) (j0 := 0) (a0 := ()) trivial).trans rfl
  · intro rec j _ hj _ hrec
    have hr := hrec () trivial
    simp only [Int.ofNat_lt, hj, decide_true, decide_false, br_true, br_false, br_not, bnd_some', joinK_eq, inK_nat hj, idxK_get hj, wr_succ (show j < 9223372036854775807 by omega), key_eta, hr, sameNode_refl ns[j].sets (hT.nb (List.getElem_mem hj)) hK]
  · intro rec _ _
    simp only [Int.ofNat_lt, Nat.lt_irrefl, decide_true, decide_false, br_true, br_false, br_not, bnd_some', joinK_eq, List.drop_length, key_eta]
theorem sameAges_refl (l : List Age) (h : l.length ≤ 1073741824) (hK : 2147483648 ≤ K) : laws_sameAges K l l = some (true, ()) := by
  unfold laws_sameAges
  rw [dec_self, br_false]
  refine (loop_ix (fun j (_ : Unit) => (l, l, (j : Int), ())) l.length (fun _ _ => True) (fun _ _ => some (true, ())) ?_ ?_ (Nat.zero_le _) (by omega) (j0 := 0) (a0 := ()) trivial).trans rfl
  · intro rec j _ hj _ hrec
    have hr := hrec () trivial
    simp only [Int.ofNat_lt, hj, decide_true, decide_false, br_true, br_false, br_not, bnd_some', joinK_eq, inK_nat hj, idxK_get hj, wr_succ (show j < 9223372036854775807 by omega), key_eta, hr, Bool.and_self, Bool.xor_self]
  · intro rec _ _
    simp only [Int.ofNat_lt, Nat.lt_irrefl, decide_true, decide_false, br_true, br_false, br_not, bnd_some', joinK_eq, List.drop_length, key_eta]
theorem sameCells_refl (l : List Cell) (h : l.length ≤ 1073741824) (hK : 2147483648 ≤ K) : laws_sameCells K l l = some (true, ()) := by
  unfold laws_sameCells
  rw [dec_self, br_false]
  refine (loop_ix (fun j (_ : Unit) => (l, l, (j : Int), ())) l.length (fun _ _ => True) (fun _ _ => some (true, ())) ?_ ?_ (Nat.zero_le _) (by omega) (j0 := 0) (a0 := ()) trivial).trans rfl
  · intro rec j _ hj _ hrec
    have hr := hrec () trivial
    simp only [Int.ofNat_lt, hj, decide_true, decide_false, br_true, br_false, br_not, bnd_some', joinK_eq, inK_nat hj, idxK_get hj, wr_succ (show j < 9223372036854775807 by omega), key_eta, hr, Bool.and_self, Bool.xor_self, beq_self_eq_true]
  · intro rec _ _
    simp only [Int.ofNat_lt, Nat.lt_irrefl, decide_true, decide_false, br_true, br_false, br_not, bnd_some', joinK_eq, List.drop_length, key_eta]
theorem samePool_refl (ls : List Int) (ns : List Node) (ages : List Age) (cells : List Cell) (vols : List Vol) (next : Int) (h : PB ls ns ages cells vols) (hK : 2147483648 ≤ K) :
    laws_samePool K ls ns ages cells vols next ls ns ages cells vols next = some (true, ()) := by
  obtain ⟨ht, ha, hc, hv, -⟩ := h
  unfold laws_samePool
  rw [sameTree_refl ls ns ht hK, bnd_some', br_not, br_true, sameAges_refl ages (by omega) hK, bnd_some', br_not, br_true, sameCells_refl cells (by omega) hK, bnd_some', br_not, br_true, dec_self, br_false, dec_self, br_false]
  refine (loop_ix (fun j (_ : Unit) => (next, vols, cells, ages, ns, ls, next, vols, cells, ages, ns, ls, (j : Int), ())) vols.length (fun _ _ => True) (fun _ _ => some (true, ())) ?_ ?_ (Nat.zero_le _) (by omega) (j0 := 0) (a0 := ()) trivial).trans rfl
  · intro rec j _ hj _ hrec
    have hr := hrec () trivial
    simp only [Int.ofNat_lt, hj, decide_true, decide_false, br_true, br_false, br_not, bnd_some', joinK_eq, inK_nat hj, idxK_get hj, wr_succ (show j < 9223372036854775807 by omega), key_eta, hr, Bool.and_self, Bool.xor_self, beq_self_eq_true]
  · intro rec _ _
    simp only [Int.ofNat_lt, Nat.lt_irrefl, decide_true, decide_false, br_true, br_false, br_not, bnd_some', joinK_eq, List.drop_length, key_eta]
theorem big_eq (l : List Int) : laws_big K l = some (decide (1048576 < (l.length : Int)), ()) := rfl
end
end Go.Proofs.Fw.R1
set_option linter.unusedVariables false
set_option linter.unusedSimpArgs false
namespace Go.Proofs.Fw.R1
open Go.Proofs.Fw
theorem sorted_ext : ∀ {a b : List Key}, Sorted a → Sorted b → (∀ x, x ∈ a ↔ x ∈ b) → a = b
  | [], [], _, _, _ => rfl
  | [], y :: b, _, _, h => absurd ((h y).2 List.mem_cons_self) (by simp)
  | x :: a, [], _, _, h => absurd ((h x).1 List.mem_cons_self) (by simp)
  | x :: a, y :: b, ha, hb, h => by
    rw [sorted_cons] at ha hb
    have hxy : x = y := by
      rcases List.mem_cons.1 ((h x).1 List.mem_cons_self) with h1 | h1
      · exact h1
      · rcases List.mem_cons.1 ((h y).2 List.mem_cons_self) with h2 | h2
        · exact h2.symm
        · have h3 := (less_irr (hb.1 x h1)).2
          rw [ha.1 y h2] at h3
          cases h3
    subst hxy
    have hself : lessKey x x = false := by
      rw [← Bool.not_eq_true, lessKey_iff]; omega
    have : a = b := sorted_ext ha.2 hb.2 fun z => by
      constructor
      · intro hz
        rcases List.mem_cons.1 ((h z).1 (List.mem_cons_of_mem _ hz)) with h1 | h1
        · subst h1; have := ha.1 z hz; rw [hself] at this; cases this
        · exact h1
      · intro hz
        rcases List.mem_cons.1 ((h z).2 (List.mem_cons_of_mem _ hz)) with h1 | h1
        · subst h1; have := hb.1 z hz; rw [hself] at this; cases this
        · exact h1
    rw [this]
theorem same_false {x y : Key} : sameSpot x y = false ↔ ¬ (x.blk = y.blk ∧ x.age = y.age) := by
  rw [← Bool.not_eq_true, sameSpot_iff]
theorem sorted_uniq {l : List Key} (h : Sorted l) {x y : Key} (hx : x ∈ l) (hy : y ∈ l) (hs : sameSpot x y = true) : x = y := by
  induction l with
  | nil => cases hx
  | cons z r ih =>
    rw [sorted_cons] at h
    rcases List.mem_cons.1 hx with h1 | h1 <;> rcases List.mem_cons.1 hy with h2 | h2
    · rw [h1, h2]
    · subst h1; have := (less_irr (h.1 y h2)).1; rw [hs] at this; cases this
    · subst h2; have := (less_irr (h.1 x h1)).1; rw [sameSpot_comm, hs] at this; cases this
    · exact ih h.2 h1 h2
theorem mem_mergeSets : ∀ {new old : List Key}, Sorted new → Sorted old → ∀ x, x ∈ mergeSets old new ↔ x ∈ new ∨ (x ∈ old ∧ ∀ y ∈ new, sameSpot x y = false)
  | [], old, _, _, x => by simp [mergeSets]
  | k :: r, old, hn, ho, x => by
    rw [sorted_cons] at hn
    show x ∈ mergeSets (setPut old k) r ↔ _
    rw [mem_mergeSets hn.2 (sorted_setPut ho), mem_setPut ho]
    constructor
    · rintro (h | ⟨h1 | h1, h2⟩)
      · exact .inl (List.mem_cons_of_mem _ h)
      · subst h1; exact .inl List.mem_cons_self
      · refine .inr ⟨h1.1, fun y hy => ?_⟩
        rcases List.mem_cons.1 hy with hy | hy
        · subst hy; exact h1.2
        · exact h2 y hy
    · rintro (h | ⟨h1, h2⟩)
      · rcases List.mem_cons.1 h with h | h
        · subst h; exact .inr ⟨.inl rfl, fun y hy => (less_irr (hn.1 y hy)).1⟩
        · exact .inl h
      · exact .inr ⟨.inr ⟨h1, h2 k List.mem_cons_self⟩, fun y hy => h2 y (List.mem_cons_of_mem _ hy)⟩
theorem mem_dropNone {l : List Key} {x : Key} : x ∈ dropNone l ↔ x ∈ l ∧ x.kind ≠ 0 := by
  unfold dropNone
  rw [List.mem_filter, decide_eq_true_eq]
theorem mergeAll_snoc (n : Sets) (l : List Key) : mergeAll [] (n ++ [l]) = mergeSets (mergeAll [] n) l := by
  unfold mergeAll
  rw [List.foldl_append]; rfl
theorem nodeKeys_kind {n : Sets} {x : Key} (h : x ∈ nodeKeys n) : x.kind ≠ 0 := (mem_dropNone.1 h).2
theorem nodeKeys_new {l : List Key} (h1 : Sorted l) (h2 : ∀ x ∈ l, x.kind ≠ 0) : nodeKeys (nodeNew l) = l := by
  have h3 : dropNone l = l := List.filter_eq_self.2 fun x hx => decide_eq_true (h2 x hx)
  unfold nodeNew
  split
  · rename_i h
    rw [List.length_eq_zero_iff] at h
    rw [h]; rfl
  · have h4 : nodeKeys [l] = dropNone (mergeSets [] l) := rfl
    rw [h4, mergeSets_sorted _ _ (by simpa using h1), List.nil_append, h3]
theorem mem_keysWith {n : Sets} {k x : Key} : x ∈ keysWith n k ↔ x.kind ≠ 0 ∧ (x = k ∨ (x ∈ nodeKeys n ∧ sameSpot x k = false)) := by
  unfold keysWith
  rw [mem_dropNone, mem_setPut (sorted_nodeKeys n)]
  exact And.comm
theorem putLast_keys {n : Sets} {k : Key} (h : ∀ l ∈ n, Sorted l) : nodeKeys (putLast n k) = keysWith n k := by
  refine sorted_ext (sorted_nodeKeys _) (sorted_keysWith _ _) fun x => ?_
  have hM := sorted_mergeAll n [] sorted_nil
  have happ : x ∈ nodeKeys (n ++ [[k]]) ↔ x ∈ keysWith n k := by
    rw [mem_keysWith]
    unfold nodeKeys
    rw [mergeAll_snoc, mem_dropNone, mem_dropNone]
    show x ∈ setPut (mergeAll [] n) k ∧ _ ↔ _
    rw [mem_setPut hM]
    constructor
    · rintro ⟨h1 | h1, h2⟩
      · exact ⟨h2, .inl h1⟩
      · exact ⟨h2, .inr ⟨⟨h1.1, h2⟩, h1.2⟩⟩
    · rintro ⟨h2, h1 | h1⟩
      · exact ⟨.inl h1, h2⟩
      · exact ⟨.inr ⟨h1.1.1, h1.2⟩, h2⟩
  unfold putLast
  split
  · rename_i l hl
    split
    · obtain ⟨hi, hl⟩ := List.getElem?_eq_some_iff.1 hl
      have hsp : n = n.take (n.length - 1) ++ [l] := by
        conv => lhs; rw [← List.take_append_drop (n.length - 1) n]
        rw [drop_cons hi, hl, List.drop_eq_nil_of_le (by omega)]
      have hset : n.set (n.length - 1) (setPut l k) = n.take (n.length - 1) ++ [setPut l k] := by
        rw [List.set_eq_take_append_cons_drop, if_pos hi, List.drop_eq_nil_of_le (by omega)]
      have hls : Sorted l := h l (by rw [← hl]; exact List.getElem_mem hi)
      rw [hset, mem_keysWith]
      have hI := sorted_mergeAll (n.take (n.length - 1)) [] sorted_nil
      have e2 : nodeKeys n = dropNone (mergeSets (mergeAll [] (n.take (n.length - 1))) l) := by
        unfold nodeKeys
        rw [← mergeAll_snoc, ← hsp]
      rw [e2]
      unfold nodeKeys
      rw [mergeAll_snoc, mem_dropNone, mem_dropNone, mem_mergeSets (sorted_setPut hls) hI, mem_mergeSets hls hI, mem_setPut hls]
      generalize mergeAll [] (n.take (n.length - 1)) = I
      have hq : (∀ y ∈ setPut l k, sameSpot x y = false) ↔ sameSpot x k = false ∧ ∀ y ∈ l, sameSpot y k = false → sameSpot x y = false := by
        constructor
        · intro h1
          exact ⟨h1 k ((mem_setPut hls).2 (.inl rfl)), fun y hy hyk => h1 y ((mem_setPut hls).2 (.inr ⟨hy, hyk⟩))⟩
        · rintro ⟨h1, h2⟩ y hy
          rcases (mem_setPut hls).1 hy with hy | hy
          · subst hy; exact h1
          · exact h2 y hy.1 hy.2
      rw [hq]
      constructor
      · rintro ⟨(h1 | h1) | ⟨h1, h2, h3⟩, h4⟩
        · exact ⟨h4, .inl h1⟩
        · exact ⟨h4, .inr ⟨⟨.inl h1.1, h4⟩, h1.2⟩⟩
        · refine ⟨h4, .inr ⟨⟨.inr ⟨h1, fun y hy => ?_⟩, h4⟩, h2⟩⟩
          cases hyk : sameSpot y k
          · exact h3 y hy hyk
          · rw [sameSpot_iff] at hyk
            rw [same_false] at h2 ⊢
            omega
      · rintro ⟨h4, h1 | ⟨⟨h1 | ⟨h1, h2⟩, _⟩, h3⟩⟩
        · exact ⟨.inl (.inl h1), h4⟩
        · exact ⟨.inl (.inr ⟨h1, h3⟩), h4⟩
        · exact ⟨.inr ⟨h1, h3, fun y hy _ => h2 y hy⟩, h4⟩
    · exact happ
  · exact happ
theorem nodePut_keys {n : Sets} {k : Key} (h : ∀ l ∈ n, Sorted l) (hp : (nodePut n k).2 = true) : nodeKeys (nodePut n k).1 = keysWith n k := by
  unfold nodePut at hp ⊢
  split at hp
  · rename_i h1
    rw [if_pos h1]
    exact putLast_keys h
  · rename_i h1
    split at hp
    · cases hp
    · rename_i h2
      rw [if_neg h1, if_neg h2]
      exact nodeKeys_new (sorted_keysWith n k) fun x hx => (mem_keysWith.1 hx).1
theorem nodeOk_sorted {n : Sets} (h : nodeOk n = true) : ∀ l ∈ n, Sorted l := fun l hl => (setOk_iff.1 ((nodeOk_iff.1 h).1 l hl).1).2.1
theorem spotIn_iff {ls : List Int} {i : Nat} {lo : Int} {k : Key} : spotIn ls i lo k = true ↔ lo ≤ spotOf k.blk k.age ∧ ∀ (h : i + 1 < ls.length), spotOf k.blk k.age < ls[i + 1] := by
  unfold spotIn
  rw [Bool.and_eq_true, Bool.not_eq_true', decide_eq_false_iff_not, Int.not_lt]
  refine and_congr_right fun _ => ?_
  by_cases h : i + 1 < ls.length
  · rw [List.getElem?_eq_getElem h]
    simp only [Bool.not_eq_true', decide_eq_false_iff_not, ge_iff_le, Int.not_le]
    exact ⟨fun h1 _ => h1, fun h1 => h1 h⟩
  · rw [List.getElem?_eq_none (by omega)]
    simp only [true_iff]
    exact fun h1 => absurd h1 h
theorem TreeGood.spot {ls : List Int} {ns : List Node} (h : TreeGood ls ns) {i : Nat} (h1 : i < ns.length) (h2 : i < ls.length) {x : Key} (hx : x ∈ nodeKeys ns[i].sets) :
    ls[i] ≤ spotOf x.blk x.age ∧ ∀ (h3 : i + 1 < ls.length), spotOf x.blk x.age < ls[i + 1] := by
  have h4 := (h.each i h1 h2).2
  unfold l6Node at h4
  simp only [Bool.and_eq_true] at h4
  have h5 := h4.2.2
  unfold inBounds at h5
  rw [List.all_eq_true] at h5
  have h6 := all_nodeKeys (p := spotIn ls i ls[i]) (n := ns[i].sets) (fun l hl y hy => List.all_eq_true.1 (h5 l hl) y hy) x hx
  exact spotIn_iff.1 h6
theorem TreeGood.mono {ls : List Int} {ns : List Node} (h : TreeGood ls ns) : ∀ (j i : Nat) (hj : j < ls.length) (hij : i < j), ls[i] < ls[j]
  | 0, i, _, hij => absurd hij (by omega)
  | j + 1, i, hj, hij => by
    have hs := (h.each (j + 1) (by have := h.len; omega) hj).1
    rcases hs with hs | hs
    · omega
    · rw [Nat.add_sub_cancel, getD_get (by omega)] at hs
      by_cases he : i = j
      · subst he; exact hs
      · have := TreeGood.mono h j i (by omega) (by omega)
        omega
theorem spot_less {x y : Key} (hx : keyOk x = true) (hy : keyOk y = true) : spotOf x.blk x.age < spotOf y.blk y.age ↔ lessKey x y = true := by
  have h1 := keyOk_ranges hx
  have h2 := keyOk_ranges hy
  rw [spotOf_eq (by omega) (by omega) (by omega) (by omega), spotOf_eq (by omega) (by omega) (by omega) (by omega), lessKey_iff]
  omega
theorem TreeGood.sorted {ls : List Int} {ns : List Node} (h : TreeGood ls ns) : Sorted (treeKeys ns) := by
  unfold Sorted treeKeys
  rw [List.pairwise_flatMap]
  refine ⟨fun x _ => sorted_nodeKeys x.sets, ?_⟩
  rw [List.pairwise_iff_getElem]
  intro i j hi hj hij x hx y hy
  have hlen := h.len
  have s1 := h.spot hi (by omega) hx
  have s2 := h.spot hj (by omega) hy
  have kx := all_nodeKeys (nodeOk_keys (h.node (List.getElem_mem hi))) x hx
  have ky := all_nodeKeys (nodeOk_keys (h.node (List.getElem_mem hj))) y hy
  rw [← spot_less kx ky]
  have h3 := s1.2 (by omega)
  by_cases he : i + 1 = j
  · subst he; have := s2.1; omega
  · have := h.mono j (i + 1) (by omega) (by omega)
    have := s2.1
    omega
theorem treeKeys_split {ns : List Node} {i : Nat} (h : i < ns.length) : treeKeys ns = treeKeys (ns.take i) ++ (nodeKeys ns[i].sets ++ treeKeys (ns.drop (i + 1))) := by
  conv => lhs; rw [← List.take_append_drop i ns, treeKeys_append, drop_cons h, treeKeys_cons]
theorem join1_keys {ls : List Int} {ns : List Node} {i : Nat} (h : i + 1 < ns.length) (hl : ls.length = ns.length) (hs : Sorted (treeKeys ns)) : treeKeys (join1 ls ns i).2 = treeKeys ns := by
  rw [join1_lists ls ns i h hl]
  simp only [replL]
  rw [treeKeys_split (show i < ns.length by omega), drop_cons h, treeKeys_cons, treeKeys_append, treeKeys_append, treeKeys_cons]
  have h2 : treeKeys ns = treeKeys (ns.take i) ++ ((nodeKeys ns[i].sets ++ nodeKeys ns[i + 1].sets) ++ treeKeys (ns.drop (i + 1 + 1))) := by
    rw [treeKeys_split (show i < ns.length by omega), drop_cons h, treeKeys_cons, List.append_assoc]
  rw [h2] at hs
  have hs2 : Sorted (nodeKeys ns[i].sets ++ nodeKeys ns[i + 1].sets) := (List.pairwise_append.1 (List.pairwise_append.1 hs).2.1).1
  have h3 : nodeKeys (nodeNew (kn ns[i] ++ kn ns[i + 1])) = kn ns[i] ++ kn ns[i + 1] := by
    refine nodeKeys_new hs2 fun x hx => ?_
    rcases List.mem_append.1 hx with hx | hx
    · exact nodeKeys_kind hx
    · exact nodeKeys_kind hx
  rw [show nodeKeys (⟨nodeNew (kn ns[i] ++ kn ns[i + 1])⟩ : Node).sets = kn ns[i] ++ kn ns[i + 1] from h3, show i + 1 + 1 = i + 2 from rfl]
  simp [treeKeys, kn]
theorem joinN_keys : ∀ (n : Nat) (ls : List Int) (ns : List Node), JB ls ns → Sorted (treeKeys ns) → treeKeys (joinN n ls ns).2 = treeKeys ns
  | 0, ls, ns, _, _ => rfl
  | n + 1, ls, ns, h, hs => by
    unfold joinN
    cases hp : pairFrom ns 0 with
    | none => rfl
    | some i =>
      have hi := (pairFrom_some hp).2
      rw [Nat.zero_add] at hi
      have h1 := join1_jb h hi (pairFrom_six (j := 0) rfl hp hi)
      have h2 := join1_keys hi h.len hs
      simp only
      rw [joinN_keys n _ _ h1.1 (by rw [h2]; exact hs), h2]
theorem whereTo_spec (ls : List Int) (s : Int) : ∀ (j : Nat), j ≤ ls.length → (∀ (m : Nat) (h : m < ls.length), whereTo ls s j ≤ m → m < j → s < ls[m]) ∧ ∀ (i : Nat), whereTo ls s j = i + 1 → ∃ h : i < ls.length, ls[i] ≤ s
  | 0, _ => ⟨fun m h h1 h2 => absurd h2 (by omega), fun i h => by simp [whereTo] at h⟩
  | j + 1, hj => by
    have ih := whereTo_spec ls s j (by omega)
    have hle := whereTo_le ls s j
    rw [whereTo_succ, getD_get (show j < ls.length by omega)]
    split
    · rename_i h
      refine ⟨fun m hm h1 h2 => absurd h1 (by omega), fun i hi => ?_⟩
      have : i = j := by omega
      subst this
      exact ⟨by omega, h⟩
    · rename_i h
      refine ⟨fun m hm h1 h2 => ?_, ih.2⟩
      by_cases he : m = j
      · subst he; omega
      · exact ih.1 m hm h1 (by omega)
theorem putAt_keys {ls : List Int} {ns : List Node} {k : Key} {i : Nat} (h : TreeGood ls ns) (hk : keyOk k = true) (h1 : i < ls.length) (h2 : i < ns.length) :
    treeKeys (putAt ls ns i ls[i] ns[i].sets k).2 = treeKeys (ns.take i) ++ (keysWith ns[i].sets k ++ treeKeys (ns.drop (i + 1))) := by
  have hok := h.node (List.getElem_mem h2)
  have hks := sorted_keysWith ns[i].sets k
  have hkk : ∀ x ∈ keysWith ns[i].sets k, x.kind ≠ 0 := fun x hx => (mem_keysWith.1 hx).1
  unfold putAt
  split
  · simp only [replL]
    rw [treeKeys_append, treeKeys_append, treeKeys_cons, treeKeys_cons]
    have a1 : Sorted ((keysWith ns[i].sets k).take (((keysWith ns[i].sets k).length + 1) / 2)) := List.Pairwise.sublist (List.take_sublist _ _) hks
    have a2 : Sorted ((keysWith ns[i].sets k).drop (((keysWith ns[i].sets k).length + 1) / 2)) := List.Pairwise.sublist (List.drop_sublist _ _) hks
    simp only
    rw [nodeKeys_new a1 fun x hx => hkk x (List.mem_of_mem_take hx), nodeKeys_new a2 fun x hx => hkk x (List.mem_of_mem_drop hx)]
    simp only [treeKeys, List.flatMap_nil, List.append_nil]
    rw [List.take_append_drop, List.append_assoc]
  · rename_i hp
    have hp : (nodePut ns[i].sets k).2 = true := Bool.not_eq_false _ ▸ hp
    have hnk := nodePut_keys (nodeOk_sorted hok) hp
    split
    · rename_i h3
      simp only [replL, List.append_nil]
      rw [treeKeys_append, ← hnk, List.length_eq_zero_iff.1 h3.2, List.nil_append]
    · simp only
      rw [List.set_eq_take_append_cons_drop, if_pos h2, treeKeys_append, treeKeys_cons, hnk]
theorem putAt_sorted {ls : List Int} {ns : List Node} {k : Key} {i : Nat} (h : TreeGood ls ns) (hk : keyOk k = true) (h1 : i < ls.length) (h2 : i < ns.length) (hw : whereIn ls k.blk k.age = i + 1) :
    Sorted (treeKeys (ns.take i) ++ (keysWith ns[i].sets k ++ treeKeys (ns.drop (i + 1)))) ∧ (∀ x ∈ treeKeys (ns.take i), sameSpot x k = false) ∧ (∀ x ∈ treeKeys (ns.drop (i + 1)), sameSpot x k = false) := by
  have hsp := whereTo_spec ls (spotOf k.blk k.age) ls.length (Nat.le_refl _)
  have hlen := h.len
  obtain ⟨hlo, hlow⟩ := hsp.2 i hw
  have hs := h.sorted
  rw [treeKeys_split h2] at hs
  unfold Sorted at hs
  rw [List.pairwise_append, List.pairwise_append] at hs
  obtain ⟨s1, ⟨s2, s3, s4⟩, s5⟩ := hs
  have left : ∀ x ∈ treeKeys (ns.take i), lessKey x k = true := by
    intro x hx
    unfold treeKeys at hx
    rw [List.mem_flatMap] at hx
    obtain ⟨y, hy, hx⟩ := hx
    obtain ⟨j, hj, rfl⟩ := List.mem_take_iff_getElem.1 hy
    have hjn : j < ns.length := by omega
    have kx := all_nodeKeys (nodeOk_keys (h.node (List.getElem_mem hjn))) x hx
    have hb := (h.spot hjn (by omega) hx).2 (by omega)
    rw [← spot_less kx hk]
    by_cases he : j + 1 = i
    · subst he; omega
    · have := h.mono i (j + 1) (by omega) (by omega); omega
  have right : ∀ x ∈ treeKeys (ns.drop (i + 1)), lessKey k x = true := by
    intro x hx
    unfold treeKeys at hx
    rw [List.mem_flatMap] at hx
    obtain ⟨y, hy, hx⟩ := hx
    obtain ⟨j, hj, rfl⟩ := List.getElem_of_mem hy
    rw [List.getElem_drop] at hx
    rw [List.length_drop] at hj
    have hjn : i + 1 + j < ns.length := by omega
    have kx := all_nodeKeys (nodeOk_keys (h.node (List.getElem_mem hjn))) x hx
    have hb := (h.spot hjn (by omega) hx).1
    rw [← spot_less hk kx]
    have := hsp.1 (i + 1 + j) (by omega) (by unfold whereIn at hw; omega) (by omega)
    omega
  refine ⟨?_, fun x hx => (less_irr (left x hx)).1, fun x hx => by rw [sameSpot_comm]; exact (less_irr (right x hx)).1⟩
  unfold Sorted
  rw [List.pairwise_append, List.pairwise_append]
  have hm : ∀ x ∈ keysWith ns[i].sets k, x = k ∨ x ∈ nodeKeys ns[i].sets := fun x hx => (mem_keysWith.1 hx).2.elim .inl fun h => .inr h.1
  refine ⟨s1, ⟨sorted_keysWith _ _, s3, ?_⟩, ?_⟩
  · intro x hx y hy
    rcases hm x hx with h3 | h3
    · subst h3; exact right y hy
    · exact s4 x h3 y hy
  · intro x hx y hy
    rcases List.mem_append.1 hy with hy | hy
    · rcases hm y hy with h3 | h3
      · subst h3; exact left x hx
      · exact s5 x hx y (List.mem_append.2 (.inl h3))
    · exact s5 x hx y (List.mem_append.2 (.inr hy))
theorem treePut_keys {ls : List Int} {ns : List Node} {k : Key} (h : TreeGood ls ns) (hp : (treePut ls ns k).2.2 = true) :
    keyOk k = true ∧ ∀ x, x ∈ treeKeys (treePut ls ns k).2.1 ↔ (x = k ∧ k.kind ≠ 0) ∨ (x ∈ treeKeys ns ∧ sameSpot x k = false) := by
  have hk : keyOk k = true := by
    unfold treePut at hp
    split at hp
    · rename_i h1
      rw [Bool.and_eq_true] at h1
      exact h1.2
    · cases hp
  refine ⟨hk, ?_⟩
  obtain ⟨i, hw, h1, h2⟩ := whereIn_pos h hk
  have he := impl_put_end h hk hw h1 h2
  have hjb := putAt_jb (k := k) h h1 h2
  have hps := putAt_sorted h hk h1 h2 hw
  have hpk := putAt_keys h hk h1 h2
  have hj := joinN_keys (putAt ls ns i ls[i] ns[i].sets k).2.length _ _ hjb.1 (by rw [hpk]; exact hps.1)
  have hq : treeKeys (treePut ls ns k).2.1 = treeKeys (ns.take i) ++ (keysWith ns[i].sets k ++ treeKeys (ns.drop (i + 1))) := by
    rw [he] at hp ⊢
    split at hp
    · rename_i h3
      rw [if_pos h3]
      simp only
      unfold joined
      rw [hj, hpk]
    · cases hp
  intro x
  rw [hq, treeKeys_split h2]
  simp only [List.mem_append]
  rw [mem_keysWith]
  have hkn : ∀ y, y ∈ nodeKeys ns[i].sets → y.kind ≠ 0 := fun y hy => nodeKeys_kind hy
  constructor
  · rintro (h3 | ⟨h3, h4 | h4⟩ | h3)
    · exact .inr ⟨.inl h3, hps.2.1 x h3⟩
    · subst h4; exact .inl ⟨rfl, h3⟩
    · exact .inr ⟨.inr (.inl h4.1), h4.2⟩
    · exact .inr ⟨.inr (.inr h3), hps.2.2 x h3⟩
  · rintro (⟨h3, h4⟩ | ⟨h3 | h3 | h3, h4⟩)
    · subst h3; exact .inr (.inl ⟨h4, .inl rfl⟩)
    · exact .inl h3
    · exact .inr (.inl ⟨hkn x h3, .inr ⟨h3, h4⟩⟩)
    · exact .inr (.inr h3)
end Go.Proofs.Fw.R1
set_option linter.unusedVariables false
set_option linter.unusedSimpArgs false
namespace Go.Proofs.Fw.R1
open Go.Proofs.Fw
theorem setAt_iff {l : List Key} {b a : Int} {k : Key} (h : Sorted l) : setAt l b a = some k ↔ k ∈ l ∧ k.blk = b ∧ k.age = a := by
  unfold setAt
  constructor
  · intro h1
    have h2 := List.find?_some h1
    rw [Bool.and_eq_true, decide_eq_true_eq, decide_eq_true_eq] at h2
    exact ⟨List.mem_of_find?_eq_some h1, h2⟩
  · rintro ⟨h1, h2, h3⟩
    cases hf : l.find? (fun k => decide (k.blk = b) && decide (k.age = a)) with
    | none =>
      rw [List.find?_eq_none] at hf
      have := hf k h1
      simp [h2, h3] at this
    | some k' =>
      have h4 := List.find?_some hf
      rw [Bool.and_eq_true, decide_eq_true_eq, decide_eq_true_eq] at h4
      rw [sorted_uniq h (List.mem_of_find?_eq_some hf) h1 (sameSpot_iff.2 (by omega))]
theorem nodeAtR_iff {b a : Int} {k : Key} : ∀ (m : Sets), (∀ l ∈ m, Sorted l) → (nodeAtR b a m = some k ↔ k ∈ dropNone (mergeAll [] m.reverse) ∧ k.blk = b ∧ k.age = a)
  | [], _ => by simp [nodeAtR, mergeAll, dropNone]
  | l :: r, h => by
    have ih := nodeAtR_iff (b := b) (a := a) (k := k) r fun l' hl => h l' (List.mem_cons_of_mem _ hl)
    have hl := h l List.mem_cons_self
    have hI := sorted_mergeAll r.reverse [] sorted_nil
    rw [List.reverse_cons, mergeAll_snoc, mem_dropNone, mem_mergeSets hl hI]
    rw [mem_dropNone] at ih
    simp only [nodeAtR]
    cases hs : setAt l b a with
    | some k0 =>
      obtain ⟨m1, m2, m3⟩ := (setAt_iff hl).1 hs
      simp only
      constructor
      · intro h1
        split at h1
        · cases h1
        · rename_i h2
          simp only [Option.some.injEq] at h1
          subst h1
          exact ⟨⟨.inl m1, h2⟩, m2, m3⟩
      · rintro ⟨⟨h1 | h1, h2⟩, h3, h4⟩
        · have := sorted_uniq hl h1 m1 (sameSpot_iff.2 (by omega))
          subst this
          rw [if_neg h2]
        · have := h1.2 k0 m1
          rw [same_false] at this
          omega
    | none =>
      simp only
      rw [ih]
      have hno : ∀ y ∈ l, ¬ (y.blk = b ∧ y.age = a) := by
        intro y hy hya
        rw [(setAt_iff hl).2 ⟨hy, hya⟩] at hs
        cases hs
      constructor
      · rintro ⟨⟨h1, h2⟩, h3, h4⟩
        refine ⟨⟨.inr ⟨h1, fun y hy => ?_⟩, h2⟩, h3, h4⟩
        rw [same_false]
        intro hh
        exact hno y hy (by omega)
      · rintro ⟨⟨h1 | h1, h2⟩, h3, h4⟩
        · exact absurd ⟨h3, h4⟩ (hno k h1)
        · exact ⟨⟨h1.1, h2⟩, h3, h4⟩
theorem nodeAt_iff {n : Sets} {b a : Int} {k : Key} (h : ∀ l ∈ n, Sorted l) : nodeAt n b a = some k ↔ k ∈ nodeKeys n ∧ k.blk = b ∧ k.age = a := by
  have := nodeAtR_iff (b := b) (a := a) (k := k) n.reverse fun l hl => h l (List.mem_reverse.1 hl)
  rw [List.reverse_reverse] at this
  exact this
theorem treeAt_iff {ls : List Int} {ns : List Node} {b a : Int} {k : Key} (h : TreeGood ls ns) (hb : 0 ≤ b ∧ b ≤ 15) (ha : 1 ≤ a ∧ a ≤ 60) : treeAt ls ns b a = some k ↔ k ∈ treeKeys ns ∧ k.blk = b ∧ k.age = a := by
  have hk0 : keyOk ⟨b, a, 0, 0, 0⟩ = true := by
    unfold keyOk inR
    simp; omega
  obtain ⟨i, hw, h1, h2⟩ := whereIn_pos (k := ⟨b, a, 0, 0, 0⟩) h hk0
  simp only at hw
  have hsp := whereTo_spec ls (spotOf b a) ls.length (Nat.le_refl _)
  obtain ⟨hlo, hlow⟩ := hsp.2 i hw
  have hlen := h.len
  unfold treeAt
  rw [hw]
  simp only
  rw [List.getElem?_eq_getElem h2]
  simp only
  rw [nodeAt_iff (nodeOk_sorted (h.node (List.getElem_mem h2)))]
  constructor
  · rintro ⟨h3, h4⟩
    refine ⟨?_, h4⟩
    unfold treeKeys
    exact List.mem_flatMap.2 ⟨ns[i], List.getElem_mem h2, h3⟩
  · rintro ⟨h3, h4, h5⟩
    refine ⟨?_, h4, h5⟩
    unfold treeKeys at h3
    rw [List.mem_flatMap] at h3
    obtain ⟨y, hy, hx⟩ := h3
    obtain ⟨j, hj, rfl⟩ := List.getElem_of_mem hy
    have hs := h.spot hj (by omega) hx
    rw [h4, h5] at hs
    rcases Nat.lt_trichotomy j i with hji | hji | hji
    · have h6 := hs.2 (by omega)
      by_cases he : j + 1 = i
      · subst he; omega
      · have := h.mono i (j + 1) (by omega) (by omega); omega
    · subst hji; exact hx
    · have := hsp.1 j (by omega) (by unfold whereIn at hw; omega) (by omega)
      have := hs.1
      omega
theorem treeAt_none {ls : List Int} {ns : List Node} {b a : Int} (h : TreeGood ls ns) (hb : 0 ≤ b ∧ b ≤ 15) (ha : 1 ≤ a ∧ a ≤ 60) : treeAt ls ns b a = none ↔ ∀ x ∈ treeKeys ns, ¬ (x.blk = b ∧ x.age = a) := by
  constructor
  · intro h1 x hx hxa
    rw [(treeAt_iff h hb ha).2 ⟨hx, hxa⟩] at h1
    cases h1
  · intro h1
    cases ht : treeAt ls ns b a with
    | none => rfl
    | some k =>
      have := (treeAt_iff h hb ha).1 ht
      exact absurd this.2 (h1 k this.1)
theorem hasI_iff {l : List Int} {x : Int} : hasI l x = true ↔ x ∈ l := by
  unfold hasI
  rw [List.any_eq_true]
  constructor
  · rintro ⟨y, hy, h⟩
    rw [decide_eq_true_eq] at h
    subst h; exact hy
  · intro h; exact ⟨x, h, decide_eq_true rfl⟩
def Best (ks : List Key) (path : List Int) (o : Option Key) : Prop := match o with
  | none => ∀ x ∈ ks, x.age ∉ path
  | some k => k ∈ ks ∧ k.age ∈ path ∧ ∀ x ∈ ks, x.age ∈ path → x.age ≤ k.age
theorem near_best (ks : List Key) (path : List Int) : Best ks path (near ks path) := by
  have key : ∀ (r d : List Key) (o : Option Key), Best d path o → Best (d ++ r) path (r.foldl (nearStep path) o) := by
    intro r
    induction r with
    | nil => intro d o h; simpa using h
    | cons k r ih =>
      intro d o h
      have h2 : Best (d ++ [k]) path (nearStep path o k) := by
        unfold nearStep
        split
        · rename_i hk
          rw [hasI_iff] at hk
          cases o with
          | none =>
            refine ⟨by simp, hk, fun x hx hp => ?_⟩
            rcases List.mem_append.1 hx with hx | hx
            · exact absurd hp (h x hx)
            · rw [List.mem_singleton] at hx; subst hx; exact Int.le_refl _
          | some w =>
            obtain ⟨w1, w2, w3⟩ := h
            simp only
            split
            · rename_i hw
              refine ⟨by simp, hk, fun x hx hp => ?_⟩
              rcases List.mem_append.1 hx with hx | hx
              · have := w3 x hx hp; omega
              · rw [List.mem_singleton] at hx; subst hx; exact Int.le_refl _
            · rename_i hw
              refine ⟨List.mem_append.2 (.inl w1), w2, fun x hx hp => ?_⟩
              rcases List.mem_append.1 hx with hx | hx
              · exact w3 x hx hp
              · rw [List.mem_singleton] at hx; subst hx; omega
        · rename_i hk
          rw [hasI_iff] at hk
          cases o with
          | none =>
            intro x hx
            rcases List.mem_append.1 hx with hx | hx
            · exact h x hx
            · rw [List.mem_singleton] at hx; subst hx; exact hk
          | some w =>
            obtain ⟨w1, w2, w3⟩ := h
            refine ⟨List.mem_append.2 (.inl w1), w2, fun x hx hp => ?_⟩
            rcases List.mem_append.1 hx with hx | hx
            · exact w3 x hx hp
            · rw [List.mem_singleton] at hx; subst hx; exact absurd hp hk
      have := ih (d ++ [k]) _ h2
      simpa using this
  exact key ks [] none fun x hx => nomatch hx
theorem best_uniq {ks : List Key} {path : List Int} {o o' : Option Key} (hu : ∀ x ∈ ks, ∀ y ∈ ks, x.age = y.age → x = y) (h : Best ks path o) (h' : Best ks path o') : o = o' := by
  cases o with
  | none =>
    cases o' with
    | none => rfl
    | some k' => exact absurd h'.2.1 (h k' h'.1)
  | some k =>
    cases o' with
    | none => exact absurd h.2.1 (h' k h.1)
    | some k' =>
      have h1 := h.2.2 k' h'.1 h'.2.1
      have h2 := h'.2.2 k h.1 h.2.1
      rw [hu k h.1 k' h'.1 (by omega)]
theorem keysOf_mem {ns : List Node} {b : Int} {x : Key} : x ∈ keysOf ns b ↔ x ∈ treeKeys ns ∧ x.blk = b := by
  unfold keysOf
  rw [List.mem_filter, decide_eq_true_eq]
theorem keysOf_uniq {ns : List Node} {b : Int} (h : Sorted (treeKeys ns)) : ∀ x ∈ keysOf ns b, ∀ y ∈ keysOf ns b, x.age = y.age → x = y := by
  intro x hx y hy hxy
  rw [keysOf_mem] at hx hy
  exact sorted_uniq h hx.1 hy.1 (sameSpot_iff.2 (by omega))
theorem near_iff {ns : List Node} {b : Int} {path : List Int} {o : Option Key} (h : Sorted (treeKeys ns)) : near (keysOf ns b) path = o ↔ Best (keysOf ns b) path o :=
  ⟨fun e => e ▸ near_best _ _, fun hb => best_uniq (keysOf_uniq h) (near_best _ _) hb⟩
structure AgesGood (l : List Age) : Prop where
  ids : ∀ a ∈ l, 1 ≤ a.id ∧ a.id ≤ 60
  rise : ∀ (i j : Nat) (hj : j < l.length) (hij : i < j), l[i].id < l[j].id
  from_ : ∀ (j : Nat) (hj : j < l.length), l[j].from_ = 0 ∨ ∃ (i : Nat) (hi : i < j), (l[i]'(by omega)).id = l[j].from_
theorem agesOk_good {l : List Age} (h : agesOk l = true) : AgesGood l := by
  unfold agesOk at h
  rw [Bool.and_eq_true, List.all_eq_true] at h
  have each : ∀ (j : Nat) (hj : j < l.length), (1 ≤ l[j].id ∧ l[j].id ≤ 60) ∧ (j = 0 ∨ (l.getD (j - 1) ⟨0, 0⟩).id < l[j].id) ∧ (l[j].from_ = 0 ∨ (ageAt (l.take j) l[j].from_).isSome = true) := by
    intro j hj
    have := h.1 j (by rw [List.mem_range'_1]; omega)
    unfold agesOkAt at this
    rw [List.getElem?_eq_getElem hj] at this
    unfold inR at this
    simp only [Bool.and_eq_true, Bool.or_eq_true, decide_eq_true_eq, Bool.not_eq_true', decide_eq_false_iff_not, ge_iff_le, Int.not_le] at this
    exact this
  refine ⟨?_, ?_, ?_⟩
  · intro a ha
    obtain ⟨j, hj, rfl⟩ := List.getElem_of_mem ha
    exact (each j hj).1
  · have key : ∀ (j i : Nat) (hj : j < l.length) (hij : i < j), l[i].id < l[j].id := by
      intro j
      induction j with
      | zero => intro i _ hij; omega
      | succ j ih =>
        intro i hj hij
        rcases (each (j + 1) hj).2.1 with h1 | h1
        · omega
        · rw [Nat.add_sub_cancel, getD_get (by omega)] at h1
          by_cases he : i = j
          · subst he; exact h1
          · have := ih i (by omega) (by omega); omega
    exact fun i j hj hij => key j i hj hij
  · intro j hj
    rcases (each j hj).2.2 with h1 | h1
    · exact .inl h1
    · obtain ⟨p, hp⟩ := Option.isSome_iff_exists.1 h1
      obtain ⟨hpl, hid⟩ := ageAt_get hp
      rw [List.length_take] at hpl
      rw [List.getElem_take] at hid
      exact .inr ⟨p, by omega, hid⟩
theorem ageAt_zero {l : List Age} (h : AgesGood l) : ageAt l 0 = none := by
  cases ha : ageAt l 0 with
  | none => rfl
  | some p =>
    obtain ⟨hp, hid⟩ := ageAt_get ha
    have := h.ids l[p] (List.getElem_mem hp)
    omega
theorem path_mem {l : List Age} : ∀ (n : Nat) (i x : Int), x ∈ pathN l n i → x = i ∨ ∃ y ∈ l, y.from_ = x
  | 0, i, x, h => by simp [pathN] at h
  | n + 1, i, x, h => by
    unfold pathN at h
    split at h
    · cases h
    · rename_i p hp
      obtain ⟨hpl, hid⟩ := ageAt_get hp
      rw [getD_get hpl] at h
      rcases List.mem_cons.1 h with h | h
      · exact .inl h
      · rcases path_mem n _ x h with h1 | h1
        · exact .inr ⟨l[p], List.getElem_mem hpl, h1.symm⟩
        · exact .inr h1
theorem path_le {l : List Age} (h : AgesGood l) : ∀ (n : Nat) (i x : Int), x ∈ pathN l n i → x ≤ i ∧ 1 ≤ x ∧ x ≤ 60
  | 0, i, x, hx => by simp [pathN] at hx
  | n + 1, i, x, hx => by
    unfold pathN at hx
    split at hx
    · cases hx
    · rename_i p hp
      obtain ⟨hpl, hid⟩ := ageAt_get hp
      rw [getD_get hpl] at hx
      have hids := h.ids l[p] (List.getElem_mem hpl)
      rcases List.mem_cons.1 hx with hx | hx
      · omega
      · rcases h.from_ p hpl with h1 | ⟨m, hm, h1⟩
        · rw [h1] at hx
          cases n with
          | zero => simp [pathN] at hx
          | succ n => unfold pathN at hx; rw [ageAt_zero h] at hx; cases hx
        · have := path_le h n _ x hx
          have := h.rise m p hpl hm
          omega
theorem path_head {l : List Age} {i : Int} {p : Nat} (h : ageAt l i = some p) : ∃ r, pathOf l i = i :: r := by
  unfold pathOf pathN
  rw [h]
  exact ⟨_, rfl⟩
theorem path_leaf {l : List Age} {x i : Int} (h0 : x ≠ 0) (hk : kidsOf l x = []) (hx : x ∈ pathOf l i) : x = i := by
  rcases path_mem _ i x hx with h | ⟨y, hy, h⟩
  · exact h
  · unfold kidsOf at hk
    rw [if_neg h0, List.map_eq_nil_iff, List.filter_eq_nil_iff] at hk
    have := hk y hy
    simp [h] at this
end Go.Proofs.Fw.R1
set_option linter.unusedVariables false
set_option linter.unusedSimpArgs false
namespace Go.Proofs.Fw.R1
open Go.Proofs.Fw
theorem lessI_irr : ∀ (a : List Int), lessI a a = false
  | [] => rfl
  | x :: r => by simp [lessI, lessI_irr r]
theorem lessI_trans : ∀ (a b c : List Int), lessI a b = true → lessI b c = true → lessI a c = true
  | a, b, [], _, h => by cases b <;> simp [lessI] at h
  | [], b, z :: c, _, _ => rfl
  | x :: a, [], z :: c, h, _ => by simp [lessI] at h
  | x :: a, y :: b, z :: c, h1, h2 => by
    simp only [lessI, Bool.or_eq_true, Bool.and_eq_true, decide_eq_true_eq] at h1 h2 ⊢
    rcases h1 with h1 | ⟨h1, h3⟩ <;> rcases h2 with h2 | ⟨h2, h4⟩
    · left; omega
    · left; omega
    · left; omega
    · exact .inr ⟨by omega, lessI_trans a b c h3 h4⟩
structure VolsGood (ages : List Age) (vols : List Vol) : Prop where
  le : vols.length ≤ 6
  each : ∀ (j : Nat) (hj : j < vols.length), nameOk vols[j].name = true ∧ (1 ≤ vols[j].size ∧ vols[j].size ≤ 12) ∧ (ageAt ages vols[j].age).isSome = true ∧ kidsOf ages vols[j].age = []
  names : ∀ (i j : Nat) (hj : j < vols.length) (hij : i < j), lessI vols[i].name vols[j].name = true
  ages_ : ∀ (i j : Nat) (hj : j < vols.length) (hij : i < j), vols[i].age ≠ vols[j].age
theorem volsOk_good {ages : List Age} {vols : List Vol} (h : volsOk ages vols = true) : VolsGood ages vols := by
  unfold volsOk at h
  simp only [Bool.and_eq_true, List.all_eq_true, decide_eq_true_eq] at h
  have each : ∀ (j : Nat) (hj : j < vols.length), nameOk vols[j].name = true ∧ (j = 0 ∨ lessI (vols.getD (j - 1) ⟨[], 0, 0, false⟩).name vols[j].name = true) ∧ (1 ≤ vols[j].size ∧ vols[j].size ≤ 12) ∧ (ageAt ages vols[j].age).isSome = true ∧ (kidsOf ages vols[j].age).length = 0 ∧ ∀ v ∈ vols.take j, v.age ≠ vols[j].age := by
    intro j hj
    have := h.1 j (by rw [List.mem_range'_1]; omega)
    unfold volsOkAt at this
    rw [List.getElem?_eq_getElem hj] at this
    unfold inR at this
    simp only [Bool.and_eq_true, Bool.or_eq_true, decide_eq_true_eq, Bool.not_eq_true', List.any_eq_false] at this
    exact ⟨this.1, this.2.1, this.2.2.1, this.2.2.2.1, this.2.2.2.2.1, this.2.2.2.2.2⟩
  refine ⟨h.2, ?_, ?_, ?_⟩
  · intro j hj
    have := each j hj
    exact ⟨this.1, this.2.2.1, this.2.2.2.1, List.length_eq_zero_iff.1 this.2.2.2.2.1⟩
  · have key : ∀ (j i : Nat) (hj : j < vols.length) (hij : i < j), lessI vols[i].name vols[j].name = true := by
      intro j
      induction j with
      | zero => intro i _ hij; omega
      | succ j ih =>
        intro i hj hij
        rcases (each (j + 1) hj).2.1 with h1 | h1
        · omega
        · rw [Nat.add_sub_cancel, getD_get (by omega)] at h1
          by_cases he : i = j
          · subst he; exact h1
          · exact lessI_trans _ _ _ (ih i (by omega) (by omega)) h1
    exact fun i j hj hij => key j i hj hij
  · intro i j hj hij
    exact (each j hj).2.2.2.2.2 vols[i] (List.mem_take_iff_getElem.2 ⟨i, by omega, rfl⟩)
theorem volAt_name {ages : List Age} {vols : List Vol} (h : VolsGood ages vols) {i : Nat} (hi : i < vols.length) : volAt vols vols[i].name = some i := by
  cases ha : volAt vols vols[i].name with
  | none =>
    unfold volAt at ha
    rw [findI_none] at ha
    have := ha vols[i] (List.getElem_mem hi)
    simp at this
  | some p =>
    obtain ⟨hp, hn⟩ := volAt_get ha
    rcases Nat.lt_trichotomy p i with h1 | h1 | h1
    · have := h.names p i hi h1; rw [hn, lessI_irr] at this; cases this
    · rw [h1]
    · have := h.names i p hp h1; rw [hn, lessI_irr] at this; cases this
theorem VolsGood.age_eq {ages : List Age} {vols : List Vol} (h : VolsGood ages vols) {i j : Nat} (hi : i < vols.length) (hj : j < vols.length) (he : vols[i].age = vols[j].age) : i = j := by
  rcases Nat.lt_trichotomy i j with h1 | h1 | h1
  · exact absurd he (h.ages_ i j hj h1)
  · exact h1
  · exact absurd he.symm (h.ages_ j i hi h1)
def content (p : Pool) (v : Vol) (b : Int) : Int := match seen p.ns p.ages b v.age with
  | some k => if k.kind = 1 then (intRes (cellAt p.cells k.cell k.gen)).1 else 0
  | none => 0
structure PoolGood (p : Pool) : Prop where
  tree : TreeGood p.ls p.ns
  ages : AgesGood p.ages
  cells : cellsOk p.cells = true
  vols : VolsGood p.ages p.vols
  keys : keysFit p.ages p.cells (treeKeys p.ns) = true
theorem poolGood {p : Pool} (h : poolOk p = true) : PoolGood p := by
  obtain ⟨h1, h2, h3, -, -, h6, h7⟩ := poolOk_parts h
  exact ⟨treeOk_iff.1 h1, agesOk_good h2, h3, volsOk_good h6, h7⟩
theorem PoolGood.vol_age {p : Pool} (h : PoolGood p) {i : Nat} (hi : i < p.vols.length) : 1 ≤ p.vols[i].age ∧ p.vols[i].age ≤ 60 ∧ ∃ r, pathOf p.ages p.vols[i].age = p.vols[i].age :: r := by
  obtain ⟨m, hm⟩ := Option.isSome_iff_exists.1 (h.vols.each i hi).2.2.1
  obtain ⟨hml, hid⟩ := ageAt_get hm
  have := h.ages.ids p.ages[m] (List.getElem_mem hml)
  exact ⟨by omega, by omega, path_head hm⟩
theorem PoolGood.cell {p : Pool} (h : PoolGood p) {x : Key} (hx : x ∈ treeKeys p.ns) (hk : x.kind = 1) : ∃ (m : Nat) (hm : m < p.cells.length), x.cell = m ∧ p.cells[m].used = true ∧ p.cells[m].gen = x.gen := by
  obtain ⟨j, hj, rfl⟩ := List.getElem_of_mem hx
  obtain ⟨n, hn⟩ := Option.isSome_iff_exists.1 (((keysFit_iff.1 h.keys).1 j hj).2 hk).1
  obtain ⟨m, hm, h1, h2, h3, -⟩ := cellAt_some hn
  exact ⟨m, hm, h1, h2, h3⟩
theorem PoolGood.cell_uniq {p : Pool} (h : PoolGood p) {x y : Key} (hx : x ∈ treeKeys p.ns) (hy : y ∈ treeKeys p.ns) (hkx : x.kind = 1) (hky : y.kind = 1) (he : x.cell = y.cell) : x = y := by
  obtain ⟨m, hm, h1, h2, -⟩ := h.cell hx hkx
  obtain ⟨t, ht, -, huq⟩ := key_of_cell h.keys hm h2
  obtain ⟨j, hj, rfl⟩ := List.getElem_of_mem hx
  obtain ⟨j', hj', rfl⟩ := List.getElem_of_mem hy
  have e1 := huq j hj (isKeyOf_iff.2 ⟨hkx, h1⟩)
  have e2 := huq j' hj' (isKeyOf_iff.2 ⟨hky, by rw [← he]; exact h1⟩)
  subst e1
  have : j' = j := e2
  subst this; rfl
theorem cellAt_set {l : List Cell} {i : Nat} {x : Cell} {c g : Int} (h : c ≠ i) : cellAt (l.set i x) c g = cellAt l c g := by
  unfold cellAt
  split
  · rename_i h0
    rw [List.getElem?_set]
    have : ¬ i = c.toNat := by omega
    rw [if_neg this]
  · rfl
theorem cellAt_take {l : List Cell} {n c g : Int} {f : Nat} (hf : (takeCell l n).2.1 = f) (h : c ≠ f) : cellAt (takeCell l n).1 c g = cellAt l c g := by
  unfold takeCell at hf ⊢
  split
  · rfl
  · split
    · rename_i i hi h1
      rw [hi] at hf
      simp only at hf
      rw [if_pos h1] at hf
      simp only at hf ⊢
      exact cellAt_set (by omega)
    · rfl
theorem cellAt_free {l : List Cell} {o c g : Int} (h : c ≠ o) : cellAt (freeCell l o) c g = cellAt l c g := by
  unfold freeCell
  split
  · rename_i h1
    rw [Bool.and_eq_true, decide_eq_true_eq] at h1
    split
    · split
      · exact cellAt_set (by omega)
      · rfl
    · rfl
  · rfl
theorem takeCell_spec {l : List Cell} {n : Int} (h : (takeCell l n).2.2 = true) : ∃ (f : Nat) (hf : f < l.length), (takeCell l n).2.1 = f ∧ l[f].used = false ∧ (takeCell l n).1 = l.set f ⟨l[f].gen, true, n⟩ := by
  unfold takeCell at h ⊢
  split at h
  · cases h
  · rename_i i hi
    have hil := freeAt_lt hi
    obtain ⟨_, _, h3⟩ := findI_some hi
    split at h
    · rename_i h1
      rw [if_pos h1]
      refine ⟨i, hil, rfl, ?_, ?_⟩
      · simpa using h3
      · rw [getD_get hil]
    · cases h
theorem seen_other {ls ls' : List Int} {ns ns' : List Node} {ages : List Age} {k : Key} {b a : Int} (hs : Sorted (treeKeys ns)) (hs' : Sorted (treeKeys ns')) (hm : ∀ x, x ∈ treeKeys ns' ↔ (x = k ∧ k.kind ≠ 0) ∨ (x ∈ treeKeys ns ∧ sameSpot x k = false))
    (ho : b = k.blk → k.age ∉ pathOf ages a) : seen ns' ages b a = seen ns ages b a := by
  unfold seen
  rw [near_iff hs']
  have hb := near_best (keysOf ns b) (pathOf ages a)
  have hx : ∀ x, x.age ∈ pathOf ages a → (x ∈ keysOf ns' b ↔ x ∈ keysOf ns b) := by
    intro x hxa
    rw [keysOf_mem, keysOf_mem, hm]
    constructor
    · rintro ⟨⟨h1, h2⟩ | ⟨h1, h2⟩, h3⟩
      · subst h1; exact absurd hxa (ho h3.symm)
      · exact ⟨h1, h3⟩
    · rintro ⟨h1, h2⟩
      refine ⟨.inr ⟨h1, ?_⟩, h2⟩
      rw [same_false]
      rintro ⟨h3, h4⟩
      rw [h4] at hxa
      exact ho (by omega) hxa
  generalize near (keysOf ns b) (pathOf ages a) = o at hb
  cases o with
  | none =>
    intro x hxm hxa
    exact hb x ((hx x hxa).1 hxm) hxa
  | some w =>
    obtain ⟨w1, w2, w3⟩ := hb
    exact ⟨(hx w w2).2 w1, w2, fun x hxm hxa => w3 x ((hx x hxa).1 hxm) hxa⟩
theorem seen_own {ns' : List Node} {ages : List Age} {k : Key} (ha : AgesGood ages) (hs' : Sorted (treeKeys ns')) (hk : k ∈ treeKeys ns') (hp : ∃ r, pathOf ages k.age = k.age :: r) : seen ns' ages k.blk k.age = some k := by
  unfold seen
  rw [near_iff hs']
  obtain ⟨r, hr⟩ := hp
  refine ⟨keysOf_mem.2 ⟨hk, rfl⟩, by rw [hr]; exact List.mem_cons_self, fun x hx hxa => ?_⟩
  exact (path_le ha _ _ _ hxa).1
theorem putKey_true {p : Pool} {k : Key} (h : (putKey p k).1 = true) : (treePut p.ls p.ns k).2.2 = true := by
  unfold putKey at h
  split at h
  · assumption
  · cases h
theorem putKey_tree {p : Pool} {k : Key} (h : (putKey p k).1 = true) : (putKey p k).2.ls = (treePut p.ls p.ns k).1 ∧ (putKey p k).2.ns = (treePut p.ls p.ns k).2.1 := by
  have := putKey_true h
  unfold putKey
  rw [if_pos this]
  exact ⟨rfl, rfl⟩
theorem putKey_cell {p : Pool} {k x : Key} (hg : TreeGood p.ls p.ns) (hb : 0 ≤ k.blk ∧ k.blk ≤ 15) (ha : 1 ≤ k.age ∧ k.age ≤ 60) (hu : ∀ o ∈ treeKeys p.ns, sameSpot o k = true → o.kind = 1 → x.cell ≠ o.cell) : cellAt (putKey p k).2.cells x.cell x.gen = cellAt p.cells x.cell x.gen := by
  unfold putKey
  split
  · simp only
    split
    · rename_i o ho
      split
      · rename_i h1
        obtain ⟨h2, h3, h4⟩ := (treeAt_iff hg hb ha).1 ho
        exact cellAt_free (hu o h2 (sameSpot_iff.2 ⟨h3, h4⟩) h1)
      · rfl
    · rfl
  · rfl
theorem endOp_zero {p q r : Pool} {ok : Bool} (h : endOp p q ok = (r, 0)) : ok = true ∧ poolOk q = true ∧ r = q := by
  unfold endOp at h
  split at h
  · split at h
    · rename_i h1 h2
      simp only [Prod.mk.injEq] at h
      exact ⟨h1, h2, h.1.symm⟩
    · simp at h
  · simp at h
theorem write_content {p q : Pool} {i : Nat} {b n : Int} (hp : poolOk p = true) (hi : i < p.vols.length) (hb : 0 ≤ b ∧ b < p.vols[i].size) (hn : isWord n = true) (h : write p p.vols[i].name b n = (q, 0)) :
    p.vols[i].fixed = false ∧ q.vols = p.vols ∧ q.ages = p.ages ∧ poolOk q = true ∧ content q p.vols[i] b = n ∧ ∀ (j : Nat) (hj : j < p.vols.length) (bb : Int), (j = i → bb ≠ b) → content q p.vols[j] bb = content p p.vols[j] bb := by
  have hg := poolGood hp
  have hvi := hg.vols.each i hi
  have hva := volAt_name hg.vols hi
  have hage := hg.vol_age hi
  unfold write at h
  split at h
  case isFalse h0 => simp only [Prod.mk.injEq] at h; exact absurd h.2 h0
  rename_i h0
  rw [hva] at h
  simp only at h
  rw [List.getElem?_eq_getElem hi] at h
  simp only at h
  have hfx : p.vols[i].fixed = false := by
    unfold blockCode at h0
    have hv0 := blockCode_zero (p := p) (s := p.vols[i].name) (b := b) (by unfold blockCode; exact h0)
    rw [if_pos hv0, hva] at h0
    simp only at h0
    rw [List.getElem?_eq_getElem hi] at h0
    simp only at h0
    cases hf : p.vols[i].fixed
    · rfl
    · rw [hf] at h0; simp at h0
  split at h
  case isFalse => simp at h
  rename_i ht
  obtain ⟨f, hfl, hf, hfu, htk⟩ := takeCell_spec ht
  obtain ⟨hok, hpq, hq⟩ := endOp_zero h
  have hfl2 : f < (takeCell p.cells n).1.length := by rw [takeCell_length]; exact hfl
  have hgen : ((takeCell p.cells n).1.getD (takeCell p.cells n).2.1.toNat ⟨0, false, 0⟩).gen = p.cells[f].gen := by
    rw [hf, Int.toNat_natCast, getD_get hfl2]
    simp only [htk, List.getElem_set_self]
  rw [hgen, hf] at hok hpq hq
  generalize hk : (⟨b, p.vols[i].age, 1, f, p.cells[f].gen⟩ : Key) = k at hok hpq hq
  have hkb : k.blk = b := by rw [← hk]
  have hka : k.age = p.vols[i].age := by rw [← hk]
  have hkk : k.kind = 1 := by rw [← hk]
  have hkc : k.cell = f := by rw [← hk]
  have hkg : k.gen = p.cells[f].gen := by rw [← hk]
  generalize hP : ({ p with cells := (takeCell p.cells n).1 } : Pool) = P at hok hpq hq
  have hPl : P.ls = p.ls := by rw [← hP]
  have hPn : P.ns = p.ns := by rw [← hP]
  have hPc : P.cells = (takeCell p.cells n).1 := by rw [← hP]
  have hPt : TreeGood P.ls P.ns := by rw [hPl, hPn]; exact hg.tree
  have hrest := putKey_rest P k
  have hPa : P.ages = p.ages := by rw [← hP]
  have hPv : P.vols = p.vols := by rw [← hP]
  have htree := putKey_tree hok
  have hkeys := treePut_keys hPt (putKey_true hok)
  have hgq := poolGood hpq
  rw [← hq] at hgq hrest htree
  have hmem : ∀ x, x ∈ treeKeys q.ns ↔ (x = k ∧ k.kind ≠ 0) ∨ (x ∈ treeKeys p.ns ∧ sameSpot x k = false) := by
    intro x
    rw [htree.2, hkeys.2 x, hPn]
  have hkq : k ∈ treeKeys q.ns := (hmem k).2 (.inl ⟨rfl, by omega⟩)
  have hages : q.ages = p.ages := by rw [hrest.1, hPa]
  have hvols : q.vols = p.vols := by rw [hrest.2.1, hPv]
  have hsz := hvi.2.1
  refine ⟨hfx, hvols, hages, by rw [hq]; exact hpq, ?_, ?_⟩
  · unfold content
    have hse : seen q.ns q.ages b p.vols[i].age = some k := by
      have := seen_own hgq.ages hgq.tree.sorted hkq (by rw [hages, hka]; exact hage.2.2)
      rw [hkb, hka] at this
      exact this
    rw [hse]
    simp only
    rw [if_pos hkk]
    have hc : cellAt q.cells k.cell k.gen = cellAt P.cells k.cell k.gen := by
      rw [hq]
      refine putKey_cell hPt (by omega) (by omega) fun o ho hos hok1 => ?_
      rw [hPn] at ho
      obtain ⟨m, hm, h1, h2, -⟩ := hg.cell ho hok1
      rw [hkc, h1]
      intro he
      have : f = m := by omega
      subst this
      rw [hfu] at h2; cases h2
    rw [hc, hPc, htk, hkc, hkg]
    unfold cellAt
    rw [if_pos (by omega), Int.toNat_natCast, List.getElem?_set, if_pos rfl, if_pos hfl]
    simp [intRes]
  · intro j hj bb hne
    have hso : seen q.ns q.ages bb p.vols[j].age = seen p.ns p.ages bb p.vols[j].age := by
      rw [hages]
      refine seen_other (ls := p.ls) (ls' := q.ls) hg.tree.sorted hgq.tree.sorted hmem fun h1 h2 => ?_
      rw [hka] at h2
      have h3 := path_leaf (by omega) hvi.2.2.2 h2
      have h4 := hg.vols.age_eq hi hj h3
      subst h4
      exact hne rfl (by omega)
    unfold content
    rw [hso]
    have hbest := near_best (keysOf p.ns bb) (pathOf p.ages p.vols[j].age)
    unfold seen
    generalize near (keysOf p.ns bb) (pathOf p.ages p.vols[j].age) = o at hbest
    cases o with
    | none => rfl
    | some w =>
      obtain ⟨w1, w2, -⟩ := hbest
      rw [keysOf_mem] at w1
      simp only
      by_cases hw : w.kind = 1
      · rw [if_pos hw, if_pos hw]
        obtain ⟨m, hm, h1, h2, -⟩ := hg.cell w1.1 hw
        have hns : sameSpot w k = false := by
          rw [same_false]
          rintro ⟨h3, h4⟩
          rw [h4, hka] at w2
          have h5 := path_leaf (by omega) hvi.2.2.2 w2
          have h6 := hg.vols.age_eq hi hj h5
          subst h6
          exact hne rfl (by omega)
        have hc : cellAt q.cells w.cell w.gen = cellAt P.cells w.cell w.gen := by
          rw [hq]
          refine putKey_cell hPt (by omega) (by omega) fun o ho hos hok1 => ?_
          rw [hPn] at ho
          intro he
          have := hg.cell_uniq w1.1 ho hw hok1 he
          subst this
          rw [hos] at hns; cases hns
        have hcf : w.cell ≠ (f : Int) := by
          rw [h1]
          intro he
          have : m = f := by omega
          subst this
          rw [hfu] at h2; cases h2
        rw [hc, hPc, cellAt_take hf hcf]
      · rw [if_neg hw, if_neg hw]
end Go.Proofs.Fw.R1
set_option linter.unusedVariables false
set_option linter.unusedSimpArgs false
namespace Go.Proofs.Fw.R1
open Go.Proofs.Fw
theorem path_tail {l : List Age} {i : Int} {r : List Int} (h : AgesGood l) (hp : pathOf l i = i :: r) : ∀ x ∈ r, x < i := by
  unfold pathOf pathN at hp
  split at hp
  · cases hp
  · rename_i p hpa
    obtain ⟨hpl, hid⟩ := ageAt_get hpa
    rw [getD_get hpl] at hp
    simp only [List.cons.injEq, true_and] at hp
    intro x hx
    rw [← hp] at hx
    rcases h.from_ p hpl with h1 | ⟨m, hm, h1⟩
    · rw [h1] at hx
      cases hl : l.length with
      | zero => rw [hl] at hx; simp [pathN] at hx
      | succ n => rw [hl] at hx; unfold pathN at hx; rw [ageAt_zero h] at hx; cases hx
    · have := path_le h _ _ x hx
      have := h.rise m p hpl hm
      omega
theorem seen_above {ns ns' : List Node} {ages : List Age} {b a : Int} {r : List Int} (ha : AgesGood ages) (hs' : Sorted (treeKeys ns')) (hp : pathOf ages a = a :: r)
    (hno : ∀ x ∈ treeKeys ns', ¬ (x.blk = b ∧ x.age = a)) (hm : ∀ x, x.age ∈ r → (x ∈ keysOf ns' b ↔ x ∈ keysOf ns b)) : seen ns' ages b a = seenAbove ns ages b a := by
  unfold seen seenAbove
  rw [near_iff hs', hp, List.drop_one, List.tail_cons]
  have hb := near_best (keysOf ns b) r
  generalize near (keysOf ns b) r = o at hb
  have htail := path_tail ha hp
  have hin : ∀ x ∈ keysOf ns' b, x.age ∈ a :: r → x.age ∈ r := by
    intro x hx hxa
    rcases List.mem_cons.1 hxa with h | h
    · rw [keysOf_mem] at hx
      exact absurd ⟨hx.2, h⟩ (hno x hx.1)
    · exact h
  cases o with
  | none =>
    intro x hx hxa
    have h1 := hin x hx hxa
    exact hb x ((hm x h1).1 hx) h1
  | some w =>
    obtain ⟨w1, w2, w3⟩ := hb
    refine ⟨(hm w w2).2 w1, List.mem_cons_of_mem _ w2, fun x hx hxa => ?_⟩
    have h1 := hin x hx hxa
    exact w3 x ((hm x h1).1 hx) h1
theorem blockCode_vol {p : Pool} {i : Nat} {b : Int} (hp : poolOk p = true) (hi : i < p.vols.length) (hb : 0 ≤ b ∧ b < p.vols[i].size) : volCode p p.vols[i].name = 0 ∧ blockCode p p.vols[i].name b = if p.vols[i].fixed then 5 else 0 := by
  have hg := poolGood hp
  have hvi := hg.vols.each i hi
  have hva := volAt_name hg.vols hi
  have hv : volCode p p.vols[i].name = 0 := by
    unfold volCode formCode
    rw [hp, hvi.1, hva]; rfl
  refine ⟨hv, ?_⟩
  unfold blockCode
  rw [if_pos hv, hva]
  simp only
  rw [List.getElem?_eq_getElem hi]
  simp only
  split
  · rfl
  · rw [if_pos]
    unfold inR
    rw [show wr (p.vols[i].size - 1) = p.vols[i].size - 1 from wr_of (by omega) (by omega)]
    simp; omega
theorem endOp_code (p q : Pool) (ok : Bool) : (endOp p q ok).2 = 0 ∨ ((endOp p q ok).2 = 6 ∧ (endOp p q ok).1 = p) := by
  unfold endOp
  split
  · split
    · exact .inl rfl
    · exact .inr ⟨rfl, rfl⟩
  · exact .inr ⟨rfl, rfl⟩
theorem putKey_keys {p : Pool} {k : Key} (hg : TreeGood p.ls p.ns) (h : (putKey p k).1 = true) : ∀ x, x ∈ treeKeys (putKey p k).2.ns ↔ (x = k ∧ k.kind ≠ 0) ∨ (x ∈ treeKeys p.ns ∧ sameSpot x k = false) := by
  intro x
  rw [(putKey_tree h).2]
  exact (treePut_keys hg (putKey_true h)).2 x
theorem discard_content {p q : Pool} {i : Nat} {b : Int} (hp : poolOk p = true) (hi : i < p.vols.length) (hb : 0 ≤ b ∧ b < p.vols[i].size) (hf : p.vols[i].fixed = false) (c : Int) (h : discard p p.vols[i].name b = (q, c)) :
    poolOk q = true ∧ q.vols = p.vols ∧ (c = 0 ∧ content q p.vols[i] b = 0 ∨ c = 6 ∧ q = p) := by
  have hg := poolGood hp
  have hvi := hg.vols.each i hi
  have hva := volAt_name hg.vols hi
  have hage := hg.vol_age hi
  have hpq := discard_ok (p := p) p.vols[i].name b hp
  rw [h] at hpq
  simp only at hpq
  unfold discard at h
  rw [(blockCode_vol hp hi hb).2, hf, hva] at h
  simp only [Bool.false_eq_true, if_false, if_true] at h
  rw [List.getElem?_eq_getElem hi] at h
  simp only at h
  rcases endOp_code p (discardAt p p.vols[i] b).2 (discardAt p p.vols[i] b).1 with hc | ⟨hc, hc2⟩
  · rw [h] at hc
    simp only at hc
    subst hc
    obtain ⟨hok, hpr, hq⟩ := endOp_zero h
    have hrest := discardAt_rest p p.vols[i] b
    rw [← hq] at hrest
    refine ⟨hpq, hrest.2.1, .inl ⟨rfl, ?_⟩⟩
    have hgq := poolGood hpq
    obtain ⟨a1, a2, r, hr⟩ := hage
    have hsz := hvi.2.1
    have tail := path_tail hg.ages hr
    have above : ∀ (o : Option Key), o = seenAbove p.ns p.ages b p.vols[i].age → (∀ w, o = some w → w.kind ≠ 1) → seen q.ns q.ages b p.vols[i].age = o → content q p.vols[i] b = 0 := by
      intro o ho hk hs
      unfold content
      rw [hs]
      cases o with
      | none => rfl
      | some w => simp only; rw [if_neg (hk w rfl)]
    have low : (∀ w, seenAbove p.ns p.ages b p.vols[i].age = some w → w.kind ≠ 1) → (if (treeAt p.ls p.ns b p.vols[i].age).isNone then (true, p) else putKey p ⟨b, p.vols[i].age, 0, 0, 0⟩ : Bool × Pool).1 = true → q = (if (treeAt p.ls p.ns b p.vols[i].age).isNone then (true, p) else putKey p ⟨b, p.vols[i].age, 0, 0, 0⟩ : Bool × Pool).2 → content q p.vols[i] b = 0 := by
      intro hk hok2 hq2
      refine above _ rfl hk ?_
      rw [hrest.1]
      split at hq2
      · rename_i hn
        subst hq2
        refine seen_above hg.ages hg.tree.sorted hr ?_ fun x _ => Iff.rfl
        exact (treeAt_none hg.tree (by omega) (by omega)).1 (Option.isNone_iff_eq_none.1 hn)
      · rename_i hn
        rw [if_neg hn] at hok2
        have hm := putKey_keys hg.tree hok2
        rw [← hq2] at hm
        refine seen_above hg.ages hgq.tree.sorted hr ?_ ?_
        · intro x hx hxa
          rcases (hm x).1 hx with ⟨-, h2⟩ | ⟨-, h2⟩
          · exact h2 rfl
          · rw [same_false] at h2
            exact h2 hxa
        · intro x hx
          rw [keysOf_mem, keysOf_mem, hm]
          have := tail x.age hx
          constructor
          · rintro ⟨⟨h1, h2⟩ | ⟨h1, h2⟩, h3⟩
            · exact absurd rfl h2
            · exact ⟨h1, h3⟩
          · rintro ⟨h1, h2⟩
            refine ⟨.inr ⟨h1, ?_⟩, h2⟩
            rw [same_false]
            rintro ⟨-, h3⟩
            simp only at h3
            omega
    unfold discardAt at hok hq
    cases hsa : seenAbove p.ns p.ages b p.vols[i].age with
    | none =>
      rw [hsa] at hok hq
      exact low (fun w hw => by rw [hsa] at hw; cases hw) hok hq
    | some w =>
      rw [hsa] at hok hq
      simp only at hok hq
      by_cases hw : w.kind = 1
      · rw [if_pos hw] at hok hq
        have hm := putKey_keys hg.tree hok
        rw [← hq] at hm
        have hs := seen_own (k := ⟨b, p.vols[i].age, 2, 0, 0⟩) hgq.ages hgq.tree.sorted ((hm _).2 (.inl ⟨rfl, by simp⟩)) ⟨r, by rw [hrest.1]; exact hr⟩
        unfold content
        simp only at hs
        rw [hs]
        rfl
      · rw [if_neg hw] at hok hq
        exact low (fun w' hw' => by rw [hsa] at hw'; simp only [Option.some.injEq] at hw'; subst hw'; exact hw) hok hq
  · rw [h] at hc hc2
    simp only at hc hc2
    subst hc hc2
    exact ⟨hp, rfl, .inr ⟨rfl, rfl⟩⟩
theorem write_code {p : Pool} {i : Nat} {b n : Int} (hp : poolOk p = true) (hi : i < p.vols.length) (hb : 0 ≤ b ∧ b < p.vols[i].size) (hn : isWord n = true) :
    (p.vols[i].fixed = true ∧ write p p.vols[i].name b n = (p, 5)) ∨ (p.vols[i].fixed = false ∧ ((write p p.vols[i].name b n).2 = 0 ∨ write p p.vols[i].name b n = (p, 6))) := by
  have hg := poolGood hp
  have hva := volAt_name hg.vols hi
  unfold write
  rw [(blockCode_vol hp hi hb).2, hva, hn]
  cases hf : p.vols[i].fixed
  · right
    refine ⟨rfl, ?_⟩
    simp only [Bool.false_eq_true, if_false, if_true]
    rw [List.getElem?_eq_getElem hi]
    simp only
    split
    · rcases endOp_code p _ _ with h | ⟨h1, h2⟩
      · exact .inl h
      · exact .inr (Prod.ext h2 h1)
    · exact .inr rfl
  · exact .inl ⟨rfl, rfl⟩
def accessCode (p : Pool) (s : List Int) (b : Int) (w : Bool) : Int :=
  if poolOk p && nameOk s then match volAt p.vols s with
    | none => 2
    | some i => match p.vols[i]? with
      | some v => if w && v.fixed then 5 else if inR b 0 (wr (v.size - 1)) then 0 else 4
      | none => 0
  else 1
theorem accessCode_true (p : Pool) (s : List Int) (b : Int) : accessCode p s b true = blockCode p s b := by
  unfold accessCode blockCode volCode formCode
  cases poolOk p && nameOk s
  · rfl
  · simp only [if_true]
    cases ha : volAt p.vols s with
    | none => rfl
    | some i =>
      simp only [Option.isSome_some, if_true]
      obtain ⟨hi, -⟩ := volAt_get ha
      rw [List.getElem?_eq_getElem hi]
      simp only [Bool.true_and]
section
variable {K : Nat}
theorem impl_blockCode_eq (ls : List Int) (ns : List Node) (ages : List Age) (cells : List Cell) (vols : List Vol) (next : Int) (s : List Int) (b : Int) (w : Bool) (h : PB ls ns ages cells vols) (hs : s.length ≤ 67108864) (hK : 2147483648 ≤ K) :
    impl_blockCode K ls ns ages cells vols next s b w = some (pairRes (volAt vols s), accessCode ⟨ls, ns, ages, cells, vols, next⟩ s b w, ()) := by
  unfold impl_blockCode accessCode
  rw [impl_VolAt_eq ls ns ages cells vols next s (by have := h.volsB; omega) hK, bnd_some', impl_PoolOk_eq ls ns ages cells vols next h hK, bnd_some', br_not, impl_NameOk_eq s (by omega) hK, bnd_some', br_not]
  simp only
  rw [pairRes_neg]
  cases poolOk ⟨ls, ns, ages, cells, vols, next⟩
  · rfl
  cases nameOk s
  · rfl
  cases ha : volAt vols s with
  | none => rfl
  | some i =>
    obtain ⟨hi, -⟩ := volAt_get ha
    simp only [Option.isNone_some, br_true, br_false, Bool.and_self, if_true]
    rw [pairRes_some, inK_nat hi, idxK_get hi, inK_nat hi, idxK_get hi, impl_within_eq, bnd_some', br_not, List.getElem?_eq_getElem hi]
    simp only
    cases w
    · simp only [br_false, Bool.false_and, Bool.false_eq_true, if_false]
      cases inR b 0 (wr (vols[i].size - 1)) <;> rfl
    · cases vols[i].fixed
      · simp only [br_true, br_false, Bool.and_false, Bool.false_eq_true, if_false]
        cases inR b 0 (wr (vols[i].size - 1)) <;> rfl
      · rfl
def read (p : Pool) (s : List Int) (b : Int) : Int × Int :=
  if accessCode p s b false = 0 then match volAt p.vols s with
    | some i => match p.vols[i]? with
      | some v => (content p v b, 0)
      | none => (0, 0)
    | none => (0, 0) else (0, accessCode p s b false)
theorem accessCode_zero {p : Pool} {s : List Int} {b : Int} {w : Bool} (h : accessCode p s b w = 0) : ∃ (i : Nat) (hi : i < p.vols.length), volAt p.vols s = some i ∧ inR b 0 (wr (p.vols[i].size - 1)) = true := by
  unfold accessCode at h
  split at h
  · split at h
    · cases h
    · rename_i i ha
      obtain ⟨hi, -⟩ := volAt_get ha
      rw [List.getElem?_eq_getElem hi] at h
      simp only at h
      split at h
      · cases h
      · split at h
        · rename_i h1
          exact ⟨i, hi, ha, h1⟩
        · cases h
  · cases h
theorem impl_Read_eq (ls : List Int) (ns : List Node) (ages : List Age) (cells : List Cell) (vols : List Vol) (next : Int) (s : List Int) (b : Int) (h : PB ls ns ages cells vols) (hs : s.length ≤ 67108864) (hK : 2147483648 ≤ K) :
    impl_Read K ls ns ages cells vols next s b = some ((read ⟨ls, ns, ages, cells, vols, next⟩ s b).1, (read ⟨ls, ns, ages, cells, vols, next⟩ s b).2, ()) := by
  unfold impl_Read read
  rw [impl_blockCode_eq ls ns ages cells vols next s b false h hs hK, bnd_some']
  simp only
  by_cases h0 : accessCode ⟨ls, ns, ages, cells, vols, next⟩ s b false = 0
  · obtain ⟨i, hi, ha, hb⟩ := accessCode_zero h0
    simp only at hi ha hb
    rw [decide_eq_false (by simp [h0]), br_false, if_pos h0, ha]
    simp only
    rw [List.getElem?_eq_getElem hi, pairRes_some]
    simp only
    unfold impl_BlockOf content
    rw [impl_within_eq, bnd_some', inR_nat (by have := h.volsB; omega), br_not, decide_eq_true hi, br_true, inK_nat hi, idxK_get hi, impl_within_eq, bnd_some', br_not, hb, br_true, inK_nat hi, idxK_get hi, impl_Seen_eq ls ns ages b _ h.tree h.agesB hK, bnd_some', br_not]
    cases seen ns ages b vols[i].age with
    | none => rfl
    | some k =>
      rw [keyRes_some]
      simp only [br_true]
      by_cases hk : k.kind = 1
      · rw [decide_eq_false (show ¬ k.kind ≠ 1 by simp [hk]), br_false, if_pos hk, impl_CellAt_eq cells _ _ (by have := h.cellsB; omega)]
        rfl
      · rw [decide_eq_true (show k.kind ≠ 1 from hk), br_true, if_neg hk]
        rfl
  · rw [decide_eq_true (show accessCode ⟨ls, ns, ages, cells, vols, next⟩ s b false ≠ 0 from h0), br_true, if_neg h0]
theorem impl_putKey_eq (ls : List Int) (ns : List Node) (ages : List Age) (cells : List Cell) (vols : List Vol) (next : Int) (k : Key) (h : TB ls ns) (hc : cells.length ≤ 67108864) (hK : 2147483648 ≤ K) :
    impl_Pool_putKey K ls ns ages cells vols next k.blk k.age k.kind k.cell k.gen = some ((putKey ⟨ls, ns, ages, cells, vols, next⟩ k).1, (treePut ls ns k).1, (treePut ls ns k).2.1, (putKey ⟨ls, ns, ages, cells, vols, next⟩ k).2.cells, ()) := by
  unfold impl_Pool_putKey putKey
  rw [impl_TreeAt_eq ls ns k.blk k.age h hK, bnd_some', impl_TreePut_eq ls ns k h hK, bnd_some']
  simp only [joinK_eq]
  cases (treePut ls ns k).2.2
  · rfl
  · rw [br_true, if_pos rfl]
    cases treeAt ls ns k.blk k.age with
    | none => rfl
    | some o =>
      rw [keyRes_some]
      simp only [br_true]
      by_cases ho : o.kind = 1
      · rw [decide_eq_true ho, br_true, impl_FreeCell_eq cells _ (by omega) hK, if_pos ho]; rfl
      · rw [decide_eq_false ho, br_false, if_neg ho]
end
end Go.Proofs.Fw.R1
set_option linter.unusedVariables false
set_option linter.unusedSimpArgs false
namespace Go.Proofs.Fw.R1
open Go.Proofs.Fw
theorem treePut_false {ls : List Int} {ns : List Node} {k : Key} (h : (treePut ls ns k).2.2 = false) : (treePut ls ns k).1 = ls ∧ (treePut ls ns k).2.1 = ns := by
  unfold treePut at h ⊢
  split at h
  · rename_i h0
    rw [if_pos h0]
    split at h
    · exact ⟨rfl, rfl⟩
    · rename_i i hw
      split at h
      · simp only at h ⊢
        split at h
        · cases h
        · rename_i h1
          rw [if_neg h1]
          exact ⟨rfl, rfl⟩
      · exact ⟨rfl, rfl⟩
  · rename_i h0
    rw [if_neg h0]
    exact ⟨rfl, rfl⟩
theorem putKey_lsns (p : Pool) (k : Key) : (treePut p.ls p.ns k).1 = (putKey p k).2.ls ∧ (treePut p.ls p.ns k).2.1 = (putKey p k).2.ns := by
  unfold putKey
  split
  · exact ⟨rfl, rfl⟩
  · rename_i h
    exact treePut_false (by simpa using h)
section
variable {K : Nat}
theorem impl_putKey_eq' (ls : List Int) (ns : List Node) (ages : List Age) (cells : List Cell) (vols : List Vol) (next : Int) (k : Key) (h : TB ls ns) (hc : cells.length ≤ 67108864) (hK : 2147483648 ≤ K) :
    impl_Pool_putKey K ls ns ages cells vols next k.blk k.age k.kind k.cell k.gen = some ((putKey ⟨ls, ns, ages, cells, vols, next⟩ k).1, (putKey ⟨ls, ns, ages, cells, vols, next⟩ k).2.ls, (putKey ⟨ls, ns, ages, cells, vols, next⟩ k).2.ns, (putKey ⟨ls, ns, ages, cells, vols, next⟩ k).2.cells, ()) := by
  rw [impl_putKey_eq ls ns ages cells vols next k h hc hK]
  have := putKey_lsns ⟨ls, ns, ages, cells, vols, next⟩ k
  simp only at this
  rw [this.1, this.2]
theorem impl_discard_eq (ls : List Int) (ns : List Node) (ages : List Age) (cells : List Cell) (vols : List Vol) (next : Int) (i : Nat) (b : Int) (h : PB ls ns ages cells vols) (hi : i < vols.length) (hK : 2147483648 ≤ K) :
    impl_Pool_discard K ls ns ages cells vols next i b = some ((discardAt ⟨ls, ns, ages, cells, vols, next⟩ vols[i] b).1, (discardAt ⟨ls, ns, ages, cells, vols, next⟩ vols[i] b).2.ls, (discardAt ⟨ls, ns, ages, cells, vols, next⟩ vols[i] b).2.ns, (discardAt ⟨ls, ns, ages, cells, vols, next⟩ vols[i] b).2.cells, ()) := by
  unfold impl_Pool_discard discardAt
  rw [inK_nat hi, idxK_get hi, impl_SeenAbove_eq ls ns ages b _ h.tree h.agesB hK, bnd_some', impl_TreeAt_eq ls ns b _ h.tree hK]
  simp only [bnd_some']
  have p2 := impl_putKey_eq' (K := K) ls ns ages cells vols next ⟨b, vols[i].age, 2, 0, 0⟩ h.tree h.cellsB hK
  have p0 := impl_putKey_eq' (K := K) ls ns ages cells vols next ⟨b, vols[i].age, 0, 0, 0⟩ h.tree h.cellsB hK
  simp only at p2 p0
  rw [p2, p0]
  simp only [bnd_some']
  cases seenAbove ns ages b vols[i].age with
  | none => cases treeAt ls ns b vols[i].age <;> rfl
  | some k =>
    rw [keyRes_some]
    simp only [br_true]
    by_cases hk : k.kind = 1
    · rw [decide_eq_true hk, if_pos hk]; rfl
    · rw [decide_eq_false hk, if_neg hk]
      cases treeAt ls ns b vols[i].age <;> rfl
theorem impl_Write_eq (ls : List Int) (ns : List Node) (ages : List Age) (cells : List Cell) (vols : List Vol) (next : Int) (s : List Int) (b n : Int) (h : PB ls ns ages cells vols) (hs : s.length ≤ 67108864) (hK : 2147483648 ≤ K) :
    impl_Write K ls ns ages cells vols next s b n = some (poolRes (write ⟨ls, ns, ages, cells, vols, next⟩ s b n)) := by
  unfold impl_Write write
  rw [impl_blockCode_eq ls ns ages cells vols next s b true h hs hK, bnd_some', accessCode_true]
  simp only [joinK_eq]
  rw [impl_copyPool_eq ls ns ages cells vols next h hK]
  simp only [bnd_some']
  by_cases h0 : blockCode ⟨ls, ns, ages, cells, vols, next⟩ s b = 0
  · obtain ⟨hp, -, i, hi, hil⟩ := volCode_zero (blockCode_zero h0)
    simp only at hi hil
    rw [decide_eq_true h0, br_true, impl_isWord_eq, bnd_some', br_not, if_pos h0]
    cases isWord n
    · rfl
    rw [br_true, if_pos rfl, h0, decide_eq_false (by simp), br_false, impl_TakeCell_eq cells n (by have := h.cellsB; omega) hK, bnd_some', br_not, hi]
    simp only
    rw [List.getElem?_eq_getElem hil, pairRes_some]
    simp only
    have hlen := takeCell_length cells n
    cases ht : (takeCell cells n).2.2
    · rfl
    · obtain ⟨c, hc, hcl⟩ := takeCell_true ht
      have hcl2 : c < (takeCell cells n).1.length := by omega
      rw [br_true, if_pos rfl, inK_nat hil, idxK_get hil, hc, inK_nat hcl2, idxK_get hcl2, Int.toNat_natCast, getD_get hcl2]
      have hpb : PBp (putKey ⟨ls, ns, ages, (takeCell cells n).1, vols, next⟩ ⟨b, vols[i].age, 1, c, (takeCell cells n).1[c].gen⟩).2 :=
        putKey_pb _ ⟨h.tree, h.agesB, by simp only; rw [hlen]; exact h.cellsB, h.volsB, h.names⟩
      have hrest := putKey_rest ⟨ls, ns, ages, (takeCell cells n).1, vols, next⟩ ⟨b, vols[i].age, 1, c, (takeCell cells n).1[c].gen⟩
      have p1 := impl_putKey_eq' (K := K) ls ns ages (takeCell cells n).1 vols next ⟨b, vols[i].age, 1, c, (takeCell cells n).1[c].gen⟩ h.tree (by rw [hlen]; exact h.cellsB) hK
      simp only at p1 hrest ⊢
      rw [p1, bnd_some']
      generalize putKey ⟨ls, ns, ages, (takeCell cells n).1, vols, next⟩ ⟨b, vols[i].age, 1, c, (takeCell cells n).1[c].gen⟩ = r at *
      unfold PBp at hpb
      rw [hrest.1, hrest.2.1] at hpb
      simp only
      rw [impl_settled_eq ls ns ages cells vols next _ _ ages _ vols next _ h (fun _ => hpb) hK]
      have e : (⟨r.2.ls, r.2.ns, ages, r.2.cells, vols, next⟩ : Pool) = r.2 := pool_ext rfl rfl hrest.1.symm rfl hrest.2.1.symm hrest.2.2.symm
      rw [e]; rfl
  · rw [decide_eq_false h0, br_false, if_neg h0, decide_eq_true (show blockCode ⟨ls, ns, ages, cells, vols, next⟩ s b ≠ 0 from h0), br_true]
    rfl
theorem impl_Discard_eq (ls : List Int) (ns : List Node) (ages : List Age) (cells : List Cell) (vols : List Vol) (next : Int) (s : List Int) (b : Int) (h : PB ls ns ages cells vols) (hs : s.length ≤ 67108864) (hK : 2147483648 ≤ K) :
    impl_Discard K ls ns ages cells vols next s b = some (poolRes (discard ⟨ls, ns, ages, cells, vols, next⟩ s b)) := by
  unfold impl_Discard discard
  rw [impl_blockCode_eq ls ns ages cells vols next s b true h hs hK, bnd_some', accessCode_true, impl_copyPool_eq ls ns ages cells vols next h hK]
  simp only [bnd_some']
  by_cases h0 : blockCode ⟨ls, ns, ages, cells, vols, next⟩ s b = 0
  · obtain ⟨hp, -, i, hi, hil⟩ := volCode_zero (blockCode_zero h0)
    simp only at hi hil
    rw [decide_eq_false (by simp [h0]), br_false, if_pos h0, hi]
    simp only
    rw [pairRes_some, List.getElem?_eq_getElem hil, impl_discard_eq ls ns ages cells vols next i b h hil hK, bnd_some']
    have hpb := discardAt_pb (p := ⟨ls, ns, ages, cells, vols, next⟩) vols[i] b h
    have hrest := discardAt_rest ⟨ls, ns, ages, cells, vols, next⟩ vols[i] b
    simp only at hrest ⊢
    generalize discardAt ⟨ls, ns, ages, cells, vols, next⟩ vols[i] b = r at *
    unfold PBp at hpb
    rw [hrest.1, hrest.2.1] at hpb
    rw [impl_settled_eq ls ns ages cells vols next _ _ ages _ vols next _ h (fun _ => hpb) hK]
    have e : (⟨r.2.ls, r.2.ns, ages, r.2.cells, vols, next⟩ : Pool) = r.2 := pool_ext rfl rfl hrest.1.symm rfl hrest.2.1.symm hrest.2.2.symm
    rw [e]; rfl
  · rw [decide_eq_true (show blockCode ⟨ls, ns, ages, cells, vols, next⟩ s b ≠ 0 from h0), br_true, if_neg h0]
    rfl
theorem drawPool_w {l : List Int} (hl : l.length ≤ 1048576) (hK : 2147483648 ≤ K) : Ok (fun y => poolOk ⟨y.1, y.2.1, y.2.2.1, y.2.2.2.1, y.2.2.2.2.1, y.2.2.2.2.2.1⟩ = true) (spec_DrawPool_v K l) := by
  unfold spec_DrawPool_v
  obtain ⟨c, hc⟩ := new_ok (K := K) hl hK
  refine ok_bnd_eq hc ?_
  obtain ⟨v, hv, hv0, hv1⟩ := size_ok (K := K) hl 30 (by omega) (by omega)
  refine ok_bnd_eq hv ?_
  simp only
  rw [show wr (8 + v) = 8 + v from wr_of (by omega) (by omega)]
  refine ok_bnd (l10Draw_w hl _ _ _ ⟨by simp, by omega⟩ (by omega) (by omega) hK) fun y hy => ?_
  exact ok_bnd (opDraw_w hl _ _ hy.1) fun o ho => ok_some hy.2
theorem at_eq {l : List Int} (hl : l.length ≤ 1048576) (hb : ∀ x ∈ l, 0 ≤ x ∧ x < 256) (k : Nat) (hk : k ≤ 100) : ∃ v, laws_at K l k = some (v, ()) ∧ 0 ≤ v ∧ v < 256 := by
  unfold laws_at
  by_cases h : k < l.length
  · have hx := hb l[k] (List.getElem_mem h)
    rw [decide_eq_true (show (k : Int) < l.length by omega), br_true, inK_nat h, idxK_get h, show wr l[k] = l[k] from wr_of (by omega) (by omega)]
    exact ⟨_, rfl, hx⟩
  · rw [decide_eq_false (show ¬ (k : Int) < l.length by omega), br_false]
    have e : wr (wr ((k : Int) * 31) + wr ((l.length : Int) * 7)) = (k : Int) * 31 + (l.length : Int) * 7 := by
      rw [show wr ((k : Int) * 31) = (k : Int) * 31 from wr_of (by omega) (by omega), show wr ((l.length : Int) * 7) = (l.length : Int) * 7 from wr_of (by omega) (by omega)]
      exact wr_of (by omega) (by omega)
    rw [e]
    exact ⟨_, rfl, Int.tmod_nonneg _ (by omega), Int.tmod_lt_of_pos _ (by omega)⟩
theorem read_ok {p : Pool} {j : Nat} {b : Int} (hp : poolOk p = true) (hj : j < p.vols.length) (hb : 0 ≤ b ∧ b < p.vols[j].size) : read p p.vols[j].name b = (content p p.vols[j] b, 0) := by
  have hg := poolGood hp
  have hvi := hg.vols.each j hj
  have hva := volAt_name hg.vols hj
  have hac : accessCode p p.vols[j].name b false = 0 := by
    unfold accessCode
    rw [hp, hvi.1, hva]
    simp only [Bool.and_self, if_true]
    rw [List.getElem?_eq_getElem hj]
    simp only [Bool.false_and, Bool.false_eq_true, if_false]
    rw [if_pos]
    unfold inR
    rw [show wr (p.vols[j].size - 1) = p.vols[j].size - 1 from wr_of (by omega) (by omega)]
    simp; omega
  unfold read
  rw [if_pos hac, hva]
  simp only
  rw [List.getElem?_eq_getElem hj]
theorem name_len {p : Pool} (hp : poolOk p = true) {j : Nat} (hj : j < p.vols.length) : p.vols[j].name.length ≤ 67108864 := (poolOk_pb hp).1.names _ (List.getElem_mem hj)
theorem plain_FnReads (l : List Int) (hbytes : ∀ x ∈ l, 0 ≤ x ∧ x < 256) (hK : 2147483648 ≤ K) : laws_FnReads_v K l = some (true, ()) := by
  have h : Ok (fun y => y = (true, ())) (laws_FnReads_v K l) := by
    unfold laws_FnReads_v
    refine ok_bnd_eq (big_eq l) ?_
    refine ok_br (fun _ => ok_some rfl) fun hbig => ?_
    have hl : l.length ≤ 1048576 := by have := of_decide_eq_false hbig; omega
    refine ok_bnd (drawPool_w hl hK) fun y hp => ?_
    obtain ⟨ls, ns, ages, cells, vols, next, o1, o2, o3, o4, o5, u⟩ := y
    simp only at hp ⊢
    obtain ⟨hpb, -, -, hv6, -, -⟩ := poolOk_pb hp
    simp only at hpb hv6
    obtain ⟨v4, e4, h40, h41⟩ := at_eq (K := K) hl hbytes 4 (by omega)
    refine ok_dec (fun h0 => ?_) (fun h0 => ?_)
    · refine ok_bnd_eq (impl_Read_eq ls ns ages cells vols next [97] 0 hpb (by simp) hK) ?_
      have hvn : vols = [] := List.length_eq_zero_iff.1 (by omega)
      subst hvn
      have hr : read ⟨ls, ns, ages, cells, [], next⟩ [97] 0 = (0, 2) := by
        have hac : accessCode ⟨ls, ns, ages, cells, [], next⟩ [97] 0 false = 2 := by
          unfold accessCode
          rw [hp]; rfl
        unfold read
        rw [hac]; rfl
      rw [hr]
      exact ok_some rfl
    · obtain ⟨v2, e2, h20, h21⟩ := at_eq (K := K) hl hbytes 2 (by omega)
      obtain ⟨v3, e3, h30, h31⟩ := at_eq (K := K) hl hbytes 3 (by omega)
      have hvl : 0 < (vols.length : Int) := by omega
      refine ok_bnd_eq e2 ?_
      rw [decide_eq_true (show (vols.length : Int) ≠ 0 by omega), chk_true']
      simp only
      have t0 := Int.tmod_nonneg (vols.length : Int) h20
      have t1 := Int.tmod_lt_of_pos v2 hvl
      obtain ⟨i, hie⟩ := Int.eq_ofNat_of_zero_le t0
      rw [hie] at t1 ⊢
      have hi : i < vols.length := by omega
      rw [inK_nat hi, idxK_get hi]
      have hvi := (poolGood hp).vols.each i hi
      simp only at hvi
      have hsz := hvi.2.1
      refine ok_bnd_eq e3 ?_
      rw [decide_eq_true (show vols[i].size ≠ 0 by omega), chk_true']
      refine ok_bnd_eq e4 ?_
      simp only
      have b0 := Int.tmod_nonneg vols[i].size h30
      have b1 := Int.tmod_lt_of_pos v3 (show 0 < vols[i].size by omega)
      generalize Int.tmod v3 vols[i].size = b at b0 b1
      have hw4 : isWord v4 = true := by
        unfold isWord inR
        simp; omega
      refine ok_bnd_eq (impl_Write_eq ls ns ages cells vols next vols[i].name b v4 hpb (name_len hp hi) hK) ?_
      rcases write_code (n := v4) hp hi ⟨b0, b1⟩ hw4 with ⟨hf, hw⟩ | ⟨hf, hw | hw⟩
      · simp only at hf hw
        rw [hw]
        refine ok_dec (fun _ => ?_) (fun h => absurd (show (5 : Int) ≠ 0 by omega) h)
        refine ok_bnd_eq (samePool_refl ls ns ages cells vols next hpb hK) ?_
        rw [hf]
        exact ok_some rfl
      · simp only at hf hw
        generalize hr : write ⟨ls, ns, ages, cells, vols, next⟩ vols[i].name b v4 = r at hw
        obtain ⟨q, c⟩ := r
        simp only at hw
        subst hw
        obtain ⟨-, hqv, hqa, hq, hown, hoth⟩ := write_content hp hi ⟨b0, b1⟩ hw4 hr
        have hqb := (poolOk_pb hq).1
        simp only at hqv hqa hown hoth
        refine ok_dec (fun h => absurd rfl h) (fun _ => ?_)
        simp only [poolRes]
        refine ok_eq ((loop_ix (fun j (_ : Unit) => (vols[i].fixed, vols[i].size, vols[i].age, vols[i].name, q.next, q.vols, q.cells, q.ages, q.ns, q.ls, next, vols, cells, ages, ns, ls, b, (j : Int), l, (i : Int), ())) vols.length (fun _ _ => True) (fun _ _ => some (true, ())) ?_ ?_ (Nat.zero_le _) (by omega) (j0 := 0) (a0 := ()) trivial)) rfl
        · intro rec j _ hj _ hrec
          have hrj := hrec () trivial
          have hvj := (poolGood hp).vols.each j hj
          simp only at hvj
          have hszj := hvj.2.1
          simp only
          rw [decide_eq_true (show (j : Int) < (vols.length : Int) by omega), br_true]
          refine (loop_ix (fun m (_ : Unit) => (next, vols, cells, ages, ns, ls, q.next, q.vols, q.cells, q.ages, q.ns, q.ls, vols[i].fixed, vols[i].size, vols[i].age, vols[i].name, (i : Int), l, b, (j : Int), (m : Int), ())) vols[j].size.toNat (fun _ _ => True) (fun _ _ => some (true, ())) ?_ ?_ (Nat.zero_le _) (by omega) (j0 := 0) (a0 := ()) trivial)
          · intro rec2 m _ hm _ hrec2
            have hr2 := hrec2 () trivial
            have hmb : (0 : Int) ≤ m ∧ (m : Int) < vols[j].size := by omega
            have r1 := read_ok (p := ⟨ls, ns, ages, cells, vols, next⟩) hp hj hmb
            have hjq : j < q.vols.length := by rw [hqv]; exact hj
            have hqj : q.vols[j] = vols[j] := by simp only [hqv]
            have r2 := read_ok (p := q) (j := j) (b := m) hq hjq (by rw [hqj]; exact hmb)
            rw [hqj] at r2
            simp only at r1 ⊢
            rw [inK_nat hj, idxK_get hj, decide_eq_true hmb.2, br_true, inK_nat hj, idxK_get hj, impl_Read_eq ls ns ages cells vols next _ m hpb (name_len hp hj) hK, bnd_some', inK_nat hj, idxK_get hj, impl_Read_eq q.ls q.ns q.ages q.cells q.vols q.next _ m hqb (name_len hp hj) hK, bnd_some', pool_eta, r1, r2]
            simp only
            rw [decide_eq_false (show ¬ ((0 : Int) ≠ 0) by simp), br_false, br_false, show wr ((m : Int) + 1) = ((m + 1 : Nat) : Int) from wr_succ (by omega), hr2]
            have e4' : laws_at K l 4 = some (v4, ()) := e4
            rw [e4', bnd_some']
            simp only
            by_cases hji : j = i
            · subst hji
              rw [decide_eq_true rfl, br_true]
              by_cases hmb2 : (m : Int) = b
              · subst hmb2
                rw [hown, decide_eq_true rfl, br_true, dec_self, br_false, dec_self, br_false, dec_self, br_false]
              · have := hoth j hj m (fun _ => hmb2)
                rw [this, decide_eq_false hmb2, br_false, dec_self, dec_self]
                simp only [br_false]
                cases decide ((m : Int) ≠ b) <;> rfl
            · have := hoth j hj m (fun h => absurd h hji)
              rw [this, decide_eq_false (show ¬ (j : Int) = i by omega), br_false, dec_self]
              simp only [br_false]
              cases decide ((j : Int) ≠ i) <;> cases decide ((m : Int) ≠ b) <;> rfl
          · intro rec2 _ _
            simp only
            rw [inK_nat hj, idxK_get hj, decide_eq_false (show ¬ (((vols[j].size.toNat : Nat) : Int) < vols[j].size) by omega), br_false, show wr ((j : Int) + 1) = ((j + 1 : Nat) : Int) from wr_succ (by omega)]
            exact hrj
        · intro rec _ _
          simp only
          rw [decide_eq_false (show ¬ ((vols.length : Int) < (vols.length : Int)) by omega), br_false]
          have hiq : i < q.vols.length := by rw [hqv]; exact hi
          have hqi : q.vols[i] = vols[i] := by simp only [hqv]
          rw [impl_Discard_eq q.ls q.ns q.ages q.cells q.vols q.next _ b hqb (name_len hp hi) hK, bnd_some', pool_eta]
          generalize hd : discard q vols[i].name b = d
          obtain ⟨r, c⟩ := d
          have hd2 : discard q q.vols[i].name b = (r, c) := by rw [hqi]; exact hd
          obtain ⟨hr, hrv, hc⟩ := discard_content hq hiq (by rw [hqi]; exact ⟨b0, b1⟩) (by rw [hqi]; exact hf) c hd2
          rw [hqi] at hc
          have hir : i < r.vols.length := by rw [hrv]; exact hiq
          have hri : r.vols[i] = vols[i] := by simp only [hrv, hqv]
          have rr := read_ok (p := r) (j := i) (b := b) hr hir (by rw [hri]; exact ⟨b0, b1⟩)
          rw [hri] at rr
          simp only [poolRes]
          rw [impl_Read_eq r.ls r.ns r.ages r.cells r.vols r.next _ b (poolOk_pb hr).1 (name_len hp hi) hK, bnd_some', pool_eta, rr, hf]
          rcases hc with ⟨hc, hz⟩ | ⟨hc, -⟩
          · subst hc; rw [hz]; rfl
          · subst hc; rfl
      · simp only at hf hw
        rw [hw]
        refine ok_dec (fun _ => ?_) (fun h => absurd (show (6 : Int) ≠ 0 by omega) h)
        refine ok_bnd_eq (samePool_refl ls ns ages cells vols next hpb hK) ?_
        rw [hf]
        exact ok_some rfl
  obtain ⟨a, e, rfl⟩ := h
  exact e
end
end Go.Proofs.Fw.R1
namespace Go.Proofs.YtelceeiijhfmmaaGreat
open Go.ChangeShapes Go.WideShapes Go.ChangeAt Go.RowKit
theorem Tryz.own : ownKnob Tryz.prog.godebug = none := by kernel_rfl
theorem Tryz.laidOut : laidOutB Tryz.prog = true := by kernel_rfl
theorem Tryz.cells5 : Tryz.prog.cellsOf 5 = 1 := by kernel_rfl
set_option maxRecDepth 100000 in
theorem fnReads_lifted (K : Nat) (hF : ∀ l : List Int, (∀ x ∈ l, 0 ≤ x ∧ x < 256) → Fw.R1.laws_FnReads_v K l = some (true, ())) (os : Os) (started : os.Started) (H : Type) (enc : TypeId × Value → H) :
    ReturnsInHanded {} Tryz.checked os 3 .any (Rows.fnReadsSpec.pre6 enc Tryz.prog Tryz.f3 Rows.fnReadsRow.domain false) (Rows.fnReadsSpec.post enc Tryz.prog Tryz.f3 false true false false) := by
  refine returnsInHanded_of_change (C := Tryz.checked) Tryz.own started (by kernel_rfl) Tryz.func3
    (ChangeSpec.witness6 (enc := enc) (C := Tryz.checked) false ⟨#[], #[.slice none 0 0], []⟩ 8 (by kernel_rfl) (by kernel_rfl) (by kernel_rfl) (by kernel_rfl)) ?_
  intro W base args ds gs before hval0 hW hcnd _
  have hW' := hW
  obtain ⟨p, q, hA0, hV, rfl, hfz, hnd⟩ := hW
  have hA : DataW.TrodAll enc Tryz.prog W 0 (fun _ => true) true Tryz.f3.params.toList args.toList ds p := hA0
  have hval : ∀ (j : Nat) t v, Tryz.f3.params[j]? = some t → args[j]? = some v → Value.okWide Tryz.prog W .any base t v := hval0
  rw [Tryz.params3] at hA hval
  obtain ⟨v0, d0, rfl, rfl, h0⟩ := trodAll_one hA
  obtain ⟨rfl, rfl⟩ := trodVars_none hV
  simp only [List.append_nil] at hW'
  have hlt : ∀ x ∈ p, x.block < W.heap.size := fun x hx => by simpa using hW'.lt x hx
  have h0k := h0
  obtain ⟨fuel, hf⟩ := h0
  obtain ⟨a0, len0, cap0, rfl⟩ := okWide_slice Tryz.underlying22 (hval 0 22 v0 rfl rfl)
  have hone : ∃ zs : List Int, (∀ x ∈ zs, 0 ≤ x ∧ x < 256) ∧ ((Value.slice a0 len0 cap0 = .slice none 0 0 ∧ zs = []) ∨ ∃ a cap, Value.slice a0 len0 cap0 = .slice (some a) zs.length cap ∧ zs.length ≤ cap ∧ ∀ i, i < zs.length → W.cell? (a.add i) = some (.int .u8 (zs.getD i 0))) := by
    rcases open_ints Tryz.underlying22 Tryz.underlying5 Tryz.cells5 hf with ⟨hcs, hx⟩ | ⟨a, len, cap, zs, hcs, _, hl, hm, hz, hx, hcell, hwz⟩
    · simp [Value.cells] at hcs
      obtain ⟨rfl, rfl, rfl⟩ := hcs
      exact ⟨[], (fun _ h => nomatch h), .inl ⟨rfl, rfl⟩⟩
    · simp [Value.cells] at hcs
      obtain ⟨rfl, rfl, rfl⟩ := hcs
      simp only [if_true] at hz
      refine ⟨zs.take len0, fun z hz => ?_, .inr ⟨a, cap0, ?_, ?_, ?_⟩⟩
      · have h2 : (decide (IntKind.u8.min ≤ z) && decide (z ≤ IntKind.u8.max)) = true := hwz z (List.mem_of_mem_take hz)
        rw [Bool.and_eq_true, decide_eq_true_eq, decide_eq_true_eq] at h2
        have e1 : IntKind.u8.min = 0 := by decide
        have e2 : IntKind.u8.max = 255 := by decide
        omega
      · rw [List.length_take, Nat.min_eq_left (by omega)]
      · rw [List.length_take]; omega
      · intro i hi
        rw [List.length_take] at hi
        rw [hcell i (by omega)]
        simp only [List.getD_eq_getElem?_getD, List.getElem?_take_of_lt (show i < len0 by omega)]
  obtain ⟨zs, hzs, hv⟩ := hone
  refine (Fw.law_bytes (m := .val) (by intro h; cases h) (Fw.R1.U178 K 177 _ (by omega) (by kernel_rfl)) (F := fun l => Fw.R1.laws_FnReads_v K l) (by kernel_rfl) zs hv (hF zs hzs)).mono fun e W' ⟨he, hb⟩ => ?_
  have hres : ∀ (b : Nat) (sp : Nat → Bool) (hd : Bool), DataW.TrodAll enc Tryz.prog W' b sp hd [4] [.bool true] [.lit (.bool true)] [] :=
    fun b sp hd => trodAll_mk1 ⟨1, by simp [DataW.trod, Value.cells, Tryz.underlying4]⟩
  have tA : DataW.TrodAll enc Tryz.prog W' 0 (fun x => decide (x < W.heap.size)) true [22] [.slice a0 len0 cap0] [d0] (p ++ []) := by
    rw [List.append_nil]
    exact trodAll_mk1 (Below.trod Tryz.laidOut (by kernel_rfl) (of_decide_eq_true (by kernel_rfl)) h0k hb hlt)
  refine ⟨_, he, _, _, _, [], _, [], hW', hres _ _ _, tA, rfl, ?_, fun h => by cases h⟩
  simpa using hb.frame _
theorem fnReads_of (K : Nat) (hF : ∀ l : List Int, (∀ x ∈ l, 0 ≤ x ∧ x < 256) → Fw.R1.laws_FnReads_v K l = some (true, ())) : Rows.FnReadsSaid :=
  OpenClaim.holds_of_wide 3 Tryz.f3 rfl rfl rfl rfl rfl rfl rfl ⟨rfl, rfl, rfl, rfl, rfl⟩ rfl rfl rfl rfl rfl (by kernel_rfl) Tryz.func3 (by kernel_rfl)
    (of_decide_eq_true (by kernel_rfl)) (by unfold Func.isWrapper; first | (rw [if_pos (by decide +kernel)]; kernel_rfl) | (rw [if_neg (by decide +kernel)]; exact ⟨rfl, rfl⟩))
    (fun os started H enc _ => fnReads_lifted K hF os started H enc)
theorem fnReads_holds : Rows.FnReadsSaid := fnReads_of 2147483648 fun l hb => Fw.R1.plain_FnReads l hb (Nat.le_refl _)
end Go.Proofs.YtelceeiijhfmmaaGreat
