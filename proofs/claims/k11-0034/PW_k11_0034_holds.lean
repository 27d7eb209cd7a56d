import PyProof.Rows.All
import PyProof.CodeObjX
import PyProof.ConsumeS
import PyProof.DelItemList
import PyProof.RangeIter
import PyProof.WalksMore
import PyProof.RangeFor
import PyProof.GenArm
import PyProof.GenQ
import PyProof.ListCopy
import PyProof.ListIndexNeg
import PyProof.Rows.News
import PyProof.Rows.GenRows
import PyProof.RulesDel
import PyProof.Rows.Many
import PyProof.Rows.SeqIn
import PyProof.Rows.ListMul
import PyProof.Rows.RuleN_abs
import PyProof.RulesDelMore
import OpenK.KLine
import OpenK.KRaise
import KE.KSlice
import KE.KNest
import KE.KEqDeep
import KE.KSetAt
import PySem.Challenge.RW_k11_0034

open PySem PySem.W PyProof.Rows
set_option Elab.async false
set_option maxRecDepth 100000
set_option maxHeartbeats 8000000
set_option linter.unusedVariables false
set_option pp.maxSteps 600
set_option pp.deepTerms false

namespace Mine

/-- what literal_value gives back -/
def litVal (lit : Int) (vals : List Int) : Int :=
  if 0 < lit then vals.getD lit.toNat 0 else -(vals.getD (-lit).toNat 0)

inductive CS where
  | tru
  | fls
  | opn
  | unit (l : Int)

def clauseState (c vals : List Int) : CS :=
  if c.any (fun l => litVal l vals == 1) then .tru
  else match c.filter (fun l => litVal l vals == 0) with
    | [] => .fls
    | u :: us => if (u :: us).any (fun l => l != u) then .opn else .unit u

def CS.isTru : CS → Bool
  | .tru => true
  | _ => false

def satisfies (vals : List Int) (cs : List (List Int)) : Bool := cs.all fun c => (clauseState c vals).isTru

/-- what values_of_number gives back, behind its first nought -/
def bitsOf : Nat → Nat → List Int
  | _, 0 => []
  | k, n + 1 => (if k % 2 = 1 then 1 else -1) :: bitsOf (k / 2) n
def valuesOf (k n : Nat) : List Int := 0 :: bitsOf k n

def truthTable (cs : List (List Int)) (n : Nat) : Bool := (List.range (2 ^ n)).any fun k => satisfies (valuesOf k n) cs

def setW (W : List Int) (lit : Int) : List Int := if 0 < lit then W.set lit.toNat 1 else W.set (-lit).toNat (-1)

def roundF : List (List Int) → List Int → List Int → Bool → List Int × List Int × Option Bool
  | [], W, O, mv => (W, O, some mv)
  | c :: cs, W, O, mv => match clauseState c W with
    | .fls => (W, O, none)
    | .unit l => roundF cs (setW W l) (O ++ [l]) true
    | _ => roundF cs W O mv

def propF : Nat → List (List Int) → List Int → List Int → List Int × List Int × Bool
  | 0, _, W, O => (W, O, true)
  | k + 1, cs, W, O => match roundF cs W O false with
    | (W', O', none) => (W', O', false)
    | (W', O', some false) => (W', O', true)
    | (W', O', some true) => propF k cs W' O'

/-! ## models -/

def Valid (n : Nat) (l : Int) : Prop := l ≠ 0 ∧ l.natAbs ≤ n
def ValidC (n : Nat) (c : List Int) : Prop := ∀ l ∈ c, Valid n l
def ValidCs (n : Nat) (cs : List (List Int)) : Prop := ∀ c ∈ cs, ValidC n c

def Sat (M : Nat → Bool) (l : Int) : Prop := if 0 < l then M l.natAbs = true else M l.natAbs = false
def Models (M : Nat → Bool) (cs : List (List Int)) : Prop := ∀ c ∈ cs, ∃ l ∈ c, Sat M l

theorem sat_neg {M : Nat → Bool} {l : Int} (h : l ≠ 0) : Sat M (-l) ↔ ¬ Sat M l := by
  unfold Sat
  rw [Int.natAbs_neg]
  by_cases h1 : 0 < l
  · have h2 : ¬ (0 < -l) := by (first | lia | omega)
    rw [if_neg h2, if_pos h1]; simp
  · have h2 : 0 < -l := by (first | lia | omega)
    rw [if_pos h2, if_neg h1]; simp

/-- the trail: W tells of each literal whether it lies in O -/
structure Tr (n : Nat) (W O : List Int) : Prop where
  len : W.length = n + 1
  val : ∀ l ∈ O, Valid n l
  nodup : O.Nodup
  anti : ∀ l ∈ O, -l ∉ O
  one : ∀ l, Valid n l → (litVal l W = 1 ↔ l ∈ O)
  zero : ∀ l, Valid n l → (litVal l W = 0 ↔ l ∉ O ∧ -l ∉ O)

theorem litVal_neg {l : Int} {W : List Int} (h : l ≠ 0) : litVal (-l) W = - litVal l W := by
  unfold litVal
  by_cases h1 : 0 < l
  · have h2 : ¬ (0 < -l) := by (first | lia | omega)
    rw [if_neg h2, if_pos h1, Int.neg_neg]
  · have h2 : 0 < -l := by (first | lia | omega)
    rw [if_pos h2, if_neg h1, Int.neg_neg]

theorem Valid.neg {n : Nat} {l : Int} (h : Valid n l) : Valid n (-l) := ⟨by have := h.1; (first | lia | omega), by rw [Int.natAbs_neg]; exact h.2⟩

theorem Tr.false_iff {n : Nat} {W O : List Int} (T : Tr n W O) {l : Int} (h : Valid n l) (h1 : litVal l W ≠ 1) (h0 : litVal l W ≠ 0) : -l ∈ O := by
  have a : l ∉ O := fun q => h1 ((T.one l h).mpr q)
  have b : ¬ (l ∉ O ∧ -l ∉ O) := fun q => h0 ((T.zero l h).mpr q)
  by_cases hc : -l ∈ O
  · exact hc
  · exact absurd ⟨a, hc⟩ b

theorem getD_set (W : List Int) (i j : Nat) (v : Int) (hi : i < W.length) : (W.set i v).getD j 0 = if j = i then v else W.getD j 0 := by
  simp only [List.getD_eq_getElem?_getD, List.getElem?_set]
  by_cases h : i = j
  · subst h; simp [hi]
  · have h' : ¬ j = i := fun q => h q.symm
    simp [h, h']

theorem litVal_setW {n : Nat} {W : List Int} {l x : Int} (hl : Valid n l) (hx : Valid n x) (hW : W.length = n + 1) :
    litVal x (setW W l) = if x = l then 1 else if x = -l then -1 else litVal x W := by
  have hl1 := hl.1; have hl2 := hl.2; have hx1 := hx.1; have hx2 := hx.2
  unfold litVal setW
  by_cases h1 : 0 < l
  · simp only [if_pos h1]
    by_cases h2 : 0 < x
    · simp only [if_pos h2]
      rw [getD_set _ _ _ _ (by (first | lia | omega))]
      by_cases h3 : x = l
      · subst h3; simp
      · have h4 : ¬ (x.toNat = l.toNat) := by (first | lia | omega)
        have h5 : ¬ (x = -l) := by (first | lia | omega)
        simp [h3, h4, h5]
    · simp only [if_neg h2]
      rw [getD_set _ _ _ _ (by (first | lia | omega))]
      have h3 : ¬ (x = l) := by (first | lia | omega)
      by_cases h5 : x = -l
      · subst h5; simp [h3]
      · have h4 : ¬ ((-x).toNat = l.toNat) := by (first | lia | omega)
        simp [h3, h4, h5]
  · simp only [if_neg h1]
    by_cases h2 : 0 < x
    · simp only [if_pos h2]
      rw [getD_set _ _ _ _ (by (first | lia | omega))]
      have h3 : ¬ (x = l) := by (first | lia | omega)
      by_cases h5 : x = -l
      · subst h5; simp [h3]
      · have h4 : ¬ (x.toNat = (-l).toNat) := by (first | lia | omega)
        simp [h3, h4, h5]
    · simp only [if_neg h2]
      rw [getD_set _ _ _ _ (by (first | lia | omega))]
      by_cases h3 : x = l
      · subst h3; simp
      · have h4 : ¬ ((-x).toNat = (-l).toNat) := by (first | lia | omega)
        have h5 : ¬ (x = -l) := by (first | lia | omega)
        simp [h3, h4, h5]

theorem setW_length (W : List Int) (l : Int) : (setW W l).length = W.length := by unfold setW; split <;> simp

theorem Tr.snoc {n : Nat} {W O : List Int} (T : Tr n W O) {l : Int} (hl : Valid n l) (h0 : litVal l W = 0) : Tr n (setW W l) (O ++ [l]) := by
  obtain ⟨a, b⟩ := (T.zero l hl).mp h0
  refine ⟨by rw [setW_length]; exact T.len, ?_, ?_, ?_, ?_, ?_⟩
  · intro x hx
    rcases List.mem_append.mp hx with q | q
    · exact T.val x q
    · rw [List.mem_singleton.mp q]; exact hl
  · rw [List.nodup_append]
    refine ⟨T.nodup, by simp, ?_⟩
    intro x hx y hy e
    rw [List.mem_singleton.mp hy] at e
    exact a (e ▸ hx)
  · intro x hx
    rw [List.mem_append, List.mem_singleton]
    rcases List.mem_append.mp hx with q | q
    · rintro (r | r)
      · exact T.anti x q r
      · have : x = -l := by (first | lia | omega)
        exact b (this ▸ q)
    · rw [List.mem_singleton.mp q]
      rintro (r | r)
      · exact b r
      · have := hl.1; (first | lia | omega)
  · intro x hx
    rw [litVal_setW hl hx T.len, List.mem_append, List.mem_singleton, ← T.one x hx]
    have := hl.1
    by_cases h1 : x = l
    · simp [h1]
    · by_cases h2 : x = -l
      · subst h2
        simp only [if_neg h1, if_true]
        rw [litVal_neg hl.1, h0]
        constructor
        · intro q; (first | lia | omega)
        · rintro (q | q) <;> (first | lia | omega)
      · simp [h1, h2]
  · intro x hx
    rw [litVal_setW hl hx T.len]
    simp only [List.mem_append, List.mem_singleton]
    have := hl.1
    by_cases h1 : x = l
    · simp [h1]
    · by_cases h2 : x = -l
      · subst h2
        simp [h1]
      · have h3 : ¬ (-x = l) := by (first | lia | omega)
        simp only [if_neg h2, h1, h3, or_false]
        exact T.zero x hx

/-! ## one round -/

theorem clause_tru {c W : List Int} (h : clauseState c W = .tru) : ∃ l ∈ c, litVal l W = 1 := by
  unfold clauseState at h
  split at h
  · rename_i q
    obtain ⟨l, hl, e⟩ := List.any_eq_true.mp q
    exact ⟨l, hl, by simpa using e⟩
  · split at h
    · cases h
    · split at h <;> cases h

theorem clause_fls {c W : List Int} (h : clauseState c W = .fls) : ∀ l ∈ c, litVal l W ≠ 1 ∧ litVal l W ≠ 0 := by
  unfold clauseState at h
  split at h
  · cases h
  · rename_i q
    split at h
    · rename_i e
      intro l hl
      refine ⟨fun r => q (List.any_eq_true.mpr ⟨l, hl, by simpa using r⟩), fun r => ?_⟩
      have : l ∈ c.filter (fun l => litVal l W == 0) := List.mem_filter.mpr ⟨hl, by simpa using r⟩
      rw [e] at this; cases this
    · split at h <;> cases h

theorem clause_unit {c W : List Int} {u : Int} (h : clauseState c W = .unit u) : u ∈ c ∧ litVal u W = 0 ∧ ∀ l ∈ c, l ≠ u → litVal l W ≠ 1 ∧ litVal l W ≠ 0 := by
  unfold clauseState at h
  split at h
  · cases h
  · rename_i q
    split at h
    · cases h
    · rename_i u' us e
      split at h
      · cases h
      · rename_i q2
        have hu : u' = u := by injection h
        subst hu
        have hm : u' ∈ c.filter (fun l => litVal l W == 0) := by rw [e]; exact List.mem_cons_self
        obtain ⟨m1, m2⟩ := List.mem_filter.mp hm
        refine ⟨m1, by simpa using m2, fun l hl hne => ⟨fun r => q (List.any_eq_true.mpr ⟨l, hl, by simpa using r⟩), fun r => ?_⟩⟩
        have h3 : l ∈ c.filter (fun l => litVal l W == 0) := List.mem_filter.mpr ⟨hl, by simpa using r⟩
        rw [e] at h3
        exact q2 (List.any_eq_true.mpr ⟨l, h3, by simpa using hne⟩)

theorem clause_opn {c W : List Int} (h : clauseState c W = .opn) : ∃ l ∈ c, ∃ l' ∈ c, l ≠ l' ∧ litVal l W = 0 ∧ litVal l' W = 0 := by
  unfold clauseState at h
  split at h
  · cases h
  · split at h
    · cases h
    · rename_i u us e
      split at h
      · rename_i q
        obtain ⟨l, hl, hne⟩ := List.any_eq_true.mp q
        have h1 : u ∈ c.filter (fun l => litVal l W == 0) := by rw [e]; exact List.mem_cons_self
        have h2 : l ∈ c.filter (fun l => litVal l W == 0) := by rw [e]; exact hl
        obtain ⟨a1, a2⟩ := List.mem_filter.mp h1
        obtain ⟨b1, b2⟩ := List.mem_filter.mp h2
        exact ⟨l, b1, u, a1, by simpa using hne, by simpa using b2, by simpa using a2⟩
      · cases h

/-- P: a set of models of cs, each of which bears the trail -/
def Bears (P : (Nat → Bool) → Prop) (O : List Int) : Prop := ∀ M, P M → ∀ l ∈ O, Sat M l

theorem no_model_fls {n : Nat} {W O c : List Int} (T : Tr n W O) (hc : ValidC n c) (h : ∀ l ∈ c, litVal l W ≠ 1 ∧ litVal l W ≠ 0) {M : Nat → Bool} (hO : ∀ l ∈ O, Sat M l) : ¬ ∃ l ∈ c, Sat M l := by
  rintro ⟨l, hl, hs⟩
  have := hO _ (T.false_iff (hc l hl) (h l hl).1 (h l hl).2)
  exact (sat_neg (hc l hl).1).mp this hs

theorem unit_forced {n : Nat} {W O c : List Int} {u : Int} (T : Tr n W O) (hc : ValidC n c) (h : ∀ l ∈ c, l ≠ u → litVal l W ≠ 1 ∧ litVal l W ≠ 0) {M : Nat → Bool} (hO : ∀ l ∈ O, Sat M l) (hm : ∃ l ∈ c, Sat M l) : Sat M u := by
  obtain ⟨l, hl, hs⟩ := hm
  by_cases e : l = u
  · exact e ▸ hs
  · have := hO _ (T.false_iff (hc l hl) (h l hl e).1 (h l hl e).2)
    exact absurd hs ((sat_neg (hc l hl).1).mp this)

structure RoundOk (n : Nat) (P : (Nat → Bool) → Prop) (cs : List (List Int)) (W O : List Int) (mv : Bool) (r : List Int × List Int × Option Bool) : Prop where
  tr : Tr n r.1 r.2.1
  ext : ∃ X, r.2.1 = O ++ X ∧ (r.2.2 = some true → mv = true ∨ 0 < X.length) ∧ (r.2.2 = some false → mv = false ∧ X = [] ∧ r.1 = W)
  bears : Bears P r.2.1
  fail : r.2.2 = none → ∀ M, ¬ P M
  fix : r.2.2 = some false → ∀ c ∈ cs, clauseState c W = .tru ∨ clauseState c W = .opn

theorem round_ok {n : Nat} {P : (Nat → Bool) → Prop} : ∀ {cs : List (List Int)} {W O : List Int} {mv : Bool}, Tr n W O → ValidCs n cs → Bears P O → (∀ M, P M → Models M cs) → RoundOk n P cs W O mv (roundF cs W O mv)
  | [], W, O, mv, T, _, hB, _ => by
    refine ⟨T, ⟨[], by simp [roundF], fun h => ?_, fun h => ?_⟩, hB, fun h => ?_, fun _ c hc => nomatch hc⟩
    · left; simpa [roundF] using h
    · refine ⟨by simpa [roundF] using h, rfl, rfl⟩
    · simp [roundF] at h
  | c :: cs, W, O, mv, T, hv, hB, hM => by
    have hvc : ValidC n c := hv c List.mem_cons_self
    have hvs : ValidCs n cs := fun d hd => hv d (List.mem_cons_of_mem _ hd)
    have hMs : ∀ M, P M → Models M cs := fun M hP d hd => hM M hP d (List.mem_cons_of_mem _ hd)
    cases e : clauseState c W with
    | fls =>
      simp only [roundF, e]
      refine ⟨T, ⟨[], by simp, fun h => by simp at h, fun h => by simp at h⟩, hB, fun _ M hP => ?_, fun h => by simp at h⟩
      exact no_model_fls T hvc (clause_fls e) (hB M hP) (hM M hP c List.mem_cons_self)
    | unit l =>
      simp only [roundF, e]
      obtain ⟨hl, h0, hr⟩ := clause_unit e
      have T' := T.snoc (hvc l hl) h0
      have hB' : Bears P (O ++ [l]) := fun M hP x hx => by
        rcases List.mem_append.mp hx with q | q
        · exact hB M hP x q
        · rw [List.mem_singleton.mp q]; exact unit_forced T hvc hr (hB M hP) (hM M hP c List.mem_cons_self)
      have R := round_ok (mv := true) T' hvs hB' hMs
      obtain ⟨X, eX, h1, h2⟩ := R.ext
      refine ⟨R.tr, ⟨l :: X, by rw [eX]; simp, fun _ => .inr (by simp), fun h => absurd (h2 h).1 (by simp)⟩, R.bears, R.fail, fun h => absurd (h2 h).1 (by simp)⟩
    | tru =>
      simp only [roundF, e]
      have R := round_ok (mv := mv) T hvs hB hMs
      refine ⟨R.tr, R.ext, R.bears, R.fail, fun h d hd => ?_⟩
      rcases List.mem_cons.mp hd with q | q
      · rw [q]; exact .inl e
      · exact R.fix h d q
    | opn =>
      simp only [roundF, e]
      have R := round_ok (mv := mv) T hvs hB hMs
      refine ⟨R.tr, R.ext, R.bears, R.fail, fun h d hd => ?_⟩
      rcases List.mem_cons.mp hd with q | q
      · rw [q]; exact .inr e
      · exact R.fix h d q

structure PropOk (n k : Nat) (P : (Nat → Bool) → Prop) (cs : List (List Int)) (O : List Int) (r : List Int × List Int × Bool) : Prop where
  tr : Tr n r.1 r.2.1
  ext : ∃ X, r.2.1 = O ++ X
  bears : Bears P r.2.1
  fail : r.2.2 = false → ∀ M, ¬ P M
  fix : r.2.2 = true → O.length + k ≤ r.2.1.length ∨ ∀ c ∈ cs, clauseState c r.1 = .tru ∨ clauseState c r.1 = .opn

theorem prop_ok {n : Nat} {P : (Nat → Bool) → Prop} {cs : List (List Int)} (hv : ValidCs n cs) (hM : ∀ M, P M → Models M cs) : ∀ {k : Nat} {W O : List Int}, Tr n W O → Bears P O → PropOk n k P cs O (propF k cs W O)
  | 0, W, O, T, hB => ⟨T, ⟨[], by simp [propF]⟩, hB, fun h => by simp [propF] at h, fun _ => .inl (Nat.le_refl _)⟩
  | k + 1, W, O, T, hB => by
    have R := round_ok (mv := false) T hv hB hM
    unfold propF
    split
    · rename_i W' O' e
      rw [e] at R
      obtain ⟨X, eX, _, _⟩ := R.ext
      exact ⟨R.tr, ⟨X, eX⟩, R.bears, fun _ => R.fail rfl, fun h => by simp at h⟩
    · rename_i W' O' e
      rw [e] at R
      obtain ⟨X, eX, _, h2⟩ := R.ext
      obtain ⟨_, rX, rW⟩ := h2 rfl
      refine ⟨R.tr, ⟨X, eX⟩, R.bears, fun h => by simp at h, fun _ => .inr ?_⟩
      have := R.fix rfl
      simp only at rW
      subst rW
      exact this
    · rename_i W' O' e
      rw [e] at R
      obtain ⟨X, eX, h1, _⟩ := R.ext
      have hX : 0 < X.length := (h1 rfl).resolve_left (by simp)
      have R' := prop_ok hv hM (k := k) R.tr R.bears
      obtain ⟨Y, eY⟩ := R'.ext
      simp only at eX eY
      subst eX
      refine ⟨R'.tr, ⟨X ++ Y, by rw [eY]; simp⟩, R'.bears, R'.fail, fun h => ?_⟩
      rcases R'.fix h with q | q
      · left
        simp only [List.length_append] at q
        (first | lia | omega)
      · exact .inr q


/-! ## the truth table -/

theorem bitsOf_length : ∀ (k n : Nat), (bitsOf k n).length = n
  | _, 0 => rfl
  | k, n + 1 => by simp [bitsOf, bitsOf_length (k / 2) n]

theorem bitsOf_getD : ∀ (n k i : Nat), i < n → (bitsOf k n).getD i 0 = if k / 2 ^ i % 2 = 1 then 1 else -1
  | 0, _, _, h => absurd h (Nat.not_lt_zero _)
  | n + 1, k, 0, _ => by simp [bitsOf]
  | n + 1, k, i + 1, h => by
    have := bitsOf_getD n (k / 2) i (by (first | lia | omega))
    simp only [bitsOf, List.getD_cons_succ, this, Nat.div_div_eq_div_mul]
    rw [Nat.pow_succ, Nat.mul_comm 2]

def numOf : Nat → (Nat → Bool) → Nat
  | 0, _ => 0
  | n + 1, M => (if M 1 then 1 else 0) + 2 * numOf n (fun v => M (v + 1))
theorem numOf_lt : ∀ (n : Nat) (M : Nat → Bool), numOf n M < 2 ^ n
  | 0, _ => by simp [numOf]
  | n + 1, M => by
    have := numOf_lt n (fun v => M (v + 1))
    simp only [numOf, Nat.pow_succ]
    split <;> (first | lia | omega)
theorem numOf_bits : ∀ (n : Nat) (M : Nat → Bool) (i : Nat), i < n → numOf n M / 2 ^ i % 2 = if M (i + 1) then 1 else 0
  | 0, _, _, h => absurd h (Nat.not_lt_zero _)
  | n + 1, M, 0, _ => by
    simp only [numOf, Nat.pow_zero, Nat.div_one, Nat.zero_add]
    split <;> (first | lia | omega)
  | n + 1, M, i + 1, h => by
    have := numOf_bits n (fun v => M (v + 1)) i (by (first | lia | omega))
    simp only [numOf]
    rw [Nat.pow_succ, Nat.mul_comm (2 ^ i) 2, ← Nat.div_div_eq_div_mul]
    have e : ((if M 1 = true then 1 else 0) + 2 * numOf n (fun v => M (v + 1))) / 2 = numOf n (fun v => M (v + 1)) := by split <;> (first | lia | omega)
    rw [e]; exact this

/-- the model that a number stands for -/
def modelOf (k : Nat) (v : Nat) : Bool := k / 2 ^ (v - 1) % 2 == 1

theorem litVal_values {n k : Nat} {l : Int} (h : Valid n l) : litVal l (valuesOf k n) = 1 ↔ Sat (modelOf k) l := by
  obtain ⟨h0, h1⟩ := h
  have key : ∀ i, i < n → (valuesOf k n).getD (i + 1) 0 = if k / 2 ^ i % 2 = 1 then 1 else -1 := fun i hi => by
    simp only [valuesOf, List.getD_cons_succ]; exact bitsOf_getD n k i hi
  unfold litVal Sat modelOf
  by_cases hp : 0 < l
  · simp only [if_pos hp]
    have e : l.toNat = (l.natAbs - 1) + 1 := by (first | lia | omega)
    rw [e, key _ (by (first | lia | omega))]
    by_cases q : k / 2 ^ (l.natAbs - 1) % 2 = 1
    · simp [q]
    · simp [q]
  · simp only [if_neg hp]
    have e : (-l).toNat = (l.natAbs - 1) + 1 := by (first | lia | omega)
    rw [e, key _ (by (first | lia | omega))]
    by_cases q : k / 2 ^ (l.natAbs - 1) % 2 = 1
    · simp [q]
    · simp [q]

theorem isTru_iff {c W : List Int} : (clauseState c W).isTru = true ↔ ∃ l ∈ c, litVal l W = 1 := by
  constructor
  · intro h
    cases e : clauseState c W <;> rw [e] at h <;> first | exact clause_tru e | cases h
  · rintro ⟨l, hl, h⟩
    unfold clauseState
    rw [if_pos (List.any_eq_true.mpr ⟨l, hl, by simpa using h⟩)]
    rfl

theorem satisfies_iff {n k : Nat} {cs : List (List Int)} (hv : ValidCs n cs) : satisfies (valuesOf k n) cs = true ↔ Models (modelOf k) cs := by
  unfold satisfies Models
  rw [List.all_eq_true]
  constructor
  · intro h c hc
    obtain ⟨l, hl, e⟩ := isTru_iff.mp (h c hc)
    exact ⟨l, hl, (litVal_values (hv c hc l hl)).mp e⟩
  · intro h c hc
    obtain ⟨l, hl, e⟩ := h c hc
    exact isTru_iff.mpr ⟨l, hl, (litVal_values (hv c hc l hl)).mpr e⟩

theorem sat_congr {n : Nat} {M M' : Nat → Bool} (h : ∀ v, 1 ≤ v → v ≤ n → M v = M' v) {l : Int} (hl : Valid n l) : Sat M l ↔ Sat M' l := by
  unfold Sat
  rw [h l.natAbs (by have := hl.1; (first | lia | omega)) hl.2]
theorem models_congr {n : Nat} {M M' : Nat → Bool} (h : ∀ v, 1 ≤ v → v ≤ n → M v = M' v) {cs : List (List Int)} (hv : ValidCs n cs) (hM : Models M cs) : Models M' cs := fun c hc =>
  let ⟨l, hl, e⟩ := hM c hc
  ⟨l, hl, (sat_congr h (hv c hc l hl)).mp e⟩

theorem modelOf_num {n : Nat} {M : Nat → Bool} : ∀ v, 1 ≤ v → v ≤ n → M v = modelOf (numOf n M) v := fun v h1 h2 => by
  unfold modelOf
  rw [numOf_bits n M (v - 1) (by (first | lia | omega)), Nat.sub_add_cancel h1]
  cases M v <;> rfl

theorem truthTable_iff {n : Nat} {cs : List (List Int)} (hv : ValidCs n cs) : truthTable cs n = true ↔ ∃ M, Models M cs := by
  unfold truthTable
  rw [List.any_eq_true]
  constructor
  · rintro ⟨k, _, h⟩
    exact ⟨_, (satisfies_iff hv).mp h⟩
  · rintro ⟨M, hM⟩
    exact ⟨numOf n M, List.mem_range.mpr (numOf_lt n M), (satisfies_iff hv).mpr (models_congr modelOf_num hv hM)⟩

/-! ## the law's own count of models -/

def truthsOf (k n : Nat) : List Int := (List.range n).map fun (i : Nat) => ((i : Int) + 1) * (2 * ((k / 2 ^ i % 2 : Nat) : Int) - 1)
def lawHolds (cs : List (List Int)) (n k : Nat) : Bool := cs.all fun c => c.any fun l => (truthsOf k n).contains l

theorem mem_truths {n k : Nat} {l : Int} (hl : Valid n l) : l ∈ truthsOf k n ↔ Sat (modelOf k) l := by
  unfold truthsOf Sat modelOf
  obtain ⟨h0, h1⟩ := hl
  rw [List.mem_map]
  constructor
  · rintro ⟨i, _, e⟩
    have hb : k / 2 ^ i % 2 = 0 ∨ k / 2 ^ i % 2 = 1 := by (first | lia | omega)
    rcases hb with q | q
    · rw [q] at e
      have ei : l.natAbs - 1 = i := by simp at e; (first | lia | omega)
      have hp : ¬ (0 < l) := by simp at e; (first | lia | omega)
      rw [if_neg hp, ei, q]; rfl
    · rw [q] at e
      have ei : l.natAbs - 1 = i := by simp at e; (first | lia | omega)
      have hp : 0 < l := by simp at e; (first | lia | omega)
      rw [if_pos hp, ei, q]; rfl
  · intro h
    refine ⟨l.natAbs - 1, List.mem_range.mpr (by (first | lia | omega)), ?_⟩
    have hb : k / 2 ^ (l.natAbs - 1) % 2 = 0 ∨ k / 2 ^ (l.natAbs - 1) % 2 = 1 := by (first | lia | omega)
    by_cases hp : 0 < l
    · rw [if_pos hp] at h
      have q : k / 2 ^ (l.natAbs - 1) % 2 = 1 := by simpa using h
      rw [q]; simp; (first | lia | omega)
    · rw [if_neg hp] at h
      have q : k / 2 ^ (l.natAbs - 1) % 2 = 0 := by
        rcases hb with r | r
        · exact r
        · rw [r] at h; cases h
      rw [q]; simp; (first | lia | omega)

theorem lawHolds_iff {n k : Nat} {cs : List (List Int)} (hv : ValidCs n cs) : lawHolds cs n k = true ↔ Models (modelOf k) cs := by
  unfold lawHolds Models
  rw [List.all_eq_true]
  refine forall_congr' fun c => forall_congr' fun hc => ?_
  rw [List.any_eq_true]
  constructor
  · rintro ⟨l, hl, e⟩
    exact ⟨l, hl, (mem_truths (hv c hc l hl)).mp (by simpa using e)⟩
  · rintro ⟨l, hl, e⟩
    exact ⟨l, hl, by simpa using (mem_truths (hv c hc l hl)).mpr e⟩

theorem due_eq {n : Nat} {cs : List (List Int)} (hv : ValidCs n cs) : truthTable cs n = decide (0 < ((List.range (2 ^ n)).filter (lawHolds cs n)).length) := by
  have e : truthTable cs n = true ↔ 0 < ((List.range (2 ^ n)).filter (lawHolds cs n)).length := by
    rw [List.length_pos_iff_exists_mem]
    unfold truthTable
    rw [List.any_eq_true]
    constructor
    · rintro ⟨k, hk, h⟩
      exact ⟨k, List.mem_filter.mpr ⟨hk, (lawHolds_iff hv).mpr ((satisfies_iff hv).mp h)⟩⟩
    · rintro ⟨k, hk⟩
      obtain ⟨a, b⟩ := List.mem_filter.mp hk
      exact ⟨k, a, (satisfies_iff hv).mpr ((lawHolds_iff hv).mp b)⟩
  by_cases h : truthTable cs n = true
  · rw [h]; exact (decide_eq_true (e.mp h)).symm
  · have h' : truthTable cs n = false := by simpa using h
    rw [h']; exact (decide_eq_false fun q => h (e.mpr q)).symm

theorem pigeon : ∀ (n : Nat) (l : List Nat), l.Nodup → (∀ x ∈ l, x < n) → l.length ≤ n
  | 0, l, _, h => by
    cases l with
    | nil => simp
    | cons a t => exact absurd (h a List.mem_cons_self) (Nat.not_lt_zero _)
  | n + 1, l, hd, h => by
    by_cases hm : n ∈ l
    · have h1 := pigeon n (l.erase n) (hd.erase n) (fun x hx => by
        have hx' := (List.Nodup.mem_erase_iff hd).mp hx
        have := h x hx'.2
        have := hx'.1
        (first | lia | omega))
      rw [List.length_erase_of_mem hm] at h1
      (first | lia | omega)
    · have h1 := pigeon n l hd (fun x hx => by
        have := h x hx
        have : x ≠ n := fun e => hm (e ▸ hx)
        (first | lia | omega))
      (first | lia | omega)

theorem Tr.length_le {n : Nat} {W O : List Int} (T : Tr n W O) : O.length ≤ n := by
  have key : ∀ (O : List Int), O.Nodup → (∀ l ∈ O, -l ∉ O) → (∀ l ∈ O, Valid n l) → (O.map fun l => l.natAbs - 1).Nodup := by
    intro O
    induction O with
    | nil => intros; simp
    | cons a t ih =>
      intro h1 h2 h3
      rw [List.map_cons, List.nodup_cons]
      refine ⟨?_, ih (List.nodup_cons.mp h1).2 (fun l hl q => h2 l (List.mem_cons_of_mem _ hl) (List.mem_cons_of_mem _ q)) fun l hl => h3 l (List.mem_cons_of_mem _ hl)⟩
      intro q
      obtain ⟨b, hb, e⟩ := List.mem_map.mp q
      have va := h3 a List.mem_cons_self
      have vb := h3 b (List.mem_cons_of_mem _ hb)
      have := va.1; have := vb.1
      have : b = a ∨ b = -a := by (first | lia | omega)
      rcases this with r | r
      · exact (List.nodup_cons.mp h1).1 (r ▸ hb)
      · exact h2 a List.mem_cons_self (List.mem_cons_of_mem _ (r ▸ hb))
  have := pigeon n _ (key O T.nodup T.anti T.val) (fun x hx => by
    obtain ⟨b, hb, e⟩ := List.mem_map.mp hx
    have vb := T.val b hb
    have := vb.1; have := vb.2
    (first | lia | omega))
  simpa using this

theorem start_tr (n : Nat) : Tr n (List.replicate (n + 1) 0) [] := by
  have z : ∀ l, Valid n l → litVal l (List.replicate (n + 1) 0) = 0 := fun l hl => by
    have := hl.1; have := hl.2
    unfold litVal
    simp only [List.getD_eq_getElem?_getD, List.getElem?_replicate]
    split <;> split <;> rfl
  refine ⟨by simp, by simp, by simp, by simp, fun l hl => ?_, fun l hl => ?_⟩
  · rw [z l hl]; simp
  · rw [z l hl]; simp

/-! ## the solver -/

def clearW : List Int → List Int → List Int
  | W, [] => W
  | W, l :: ls => clearW (W.set l.natAbs 0) ls

def firstFree (W : List Int) (n : Nat) : Nat := match (List.range n).find? (fun i => W.getD (i + 1) 0 == 0) with
  | some i => i + 1
  | none => 0

structure SSt where
  W : List Int
  O : List Int
  M : List Nat
inductive TR where
  | done (b : Bool)
  | go (s : SSt)

def turnF (cs : List (List Int)) (n : Nat) (s : SSt) : TR :=
  match propF (n + 1) cs s.W s.O with
  | (W, O, false) => match s.M.getLast? with
    | none => .done false
    | some j => .go ⟨setW (clearW W (O.drop j)) (-(O.getD j 0)), O.take j ++ [-(O.getD j 0)], s.M.dropLast⟩
  | (W, O, true) => match firstFree W n with
    | 0 => .done true
    | v + 1 => .go ⟨setW W ((v + 1 : Nat) : Int), O ++ [((v + 1 : Nat) : Int)], s.M ++ [O.length]⟩

def solveF (cs : List (List Int)) (n : Nat) : Nat → SSt → Option Bool
  | 0, _ => none
  | f + 1, s => match turnF cs n s with
    | .done b => some b
    | .go s' => solveF cs n f s'

theorem litVal_clear {n : Nat} {W : List Int} {l x : Int} (hl : Valid n l) (hx : Valid n x) (hW : W.length = n + 1) :
    litVal x (W.set l.natAbs 0) = if x = l then 0 else if x = -l then 0 else litVal x W := by
  have hl1 := hl.1; have hl2 := hl.2; have hx1 := hx.1; have hx2 := hx.2
  unfold litVal
  by_cases h2 : 0 < x
  · simp only [if_pos h2]
    rw [getD_set _ _ _ _ (by (first | lia | omega))]
    by_cases h3 : x.toNat = l.natAbs
    · rw [if_pos h3]
      have : x = l ∨ x = -l := by (first | lia | omega)
      rcases this with q | q
      · rw [if_pos q]
      · rw [if_pos q]; simp
    · rw [if_neg h3, if_neg (by (first | lia | omega)), if_neg (by (first | lia | omega))]
  · simp only [if_neg h2]
    rw [getD_set _ _ _ _ (by (first | lia | omega))]
    by_cases h3 : (-x).toNat = l.natAbs
    · rw [if_pos h3]
      have : x = l ∨ x = -l := by (first | lia | omega)
      rcases this with q | q
      · rw [if_pos q]; rfl
      · rw [if_pos q]; simp
    · rw [if_neg h3, if_neg (by (first | lia | omega)), if_neg (by (first | lia | omega))]

theorem Tr.drop1 {n : Nat} {W A B : List Int} {l : Int} (T : Tr n W (A ++ l :: B)) : Tr n (W.set l.natAbs 0) (A ++ B) := by
  have hl : Valid n l := T.val l (by simp)
  have sub : ∀ x ∈ A ++ B, x ∈ A ++ l :: B := fun x hx => by
    rcases List.mem_append.mp hx with q | q <;> simp [q]
  have nd := T.nodup
  have lno : l ∉ A ++ B := fun q => by
    rw [List.nodup_append] at nd
    obtain ⟨_, n2, n3⟩ := nd
    rcases List.mem_append.mp q with r | r
    · exact n3 l r l (by simp) rfl
    · exact (List.nodup_cons.mp n2).1 r
  have lno' : -l ∉ A ++ B := fun q => T.anti l (by simp) (sub _ q)
  have mem_iff : ∀ x, x ≠ l → (x ∈ A ++ l :: B ↔ x ∈ A ++ B) := fun x hx => by simp [hx]
  refine ⟨by simpa using T.len, fun x hx => T.val x (sub x hx), ?_, fun x hx q => T.anti x (sub x hx) (sub _ q), ?_, ?_⟩
  · rw [List.nodup_append] at nd ⊢
    obtain ⟨n1, n2, n3⟩ := nd
    exact ⟨n1, (List.nodup_cons.mp n2).2, fun a ha b hb => n3 a ha b (List.mem_cons_of_mem _ hb)⟩
  · intro x hx
    rw [litVal_clear hl hx T.len]
    by_cases h1 : x = l
    · subst h1; simp only [if_true]
      exact ⟨fun q => absurd q (by (first | lia | omega)), fun q => absurd q lno⟩
    · by_cases h2 : x = -l
      · subst h2; rw [if_neg h1, if_pos rfl]
        exact ⟨fun q => absurd q (by (first | lia | omega)), fun q => absurd q lno'⟩
      · rw [if_neg h1, if_neg h2, T.one x hx, mem_iff x h1]
  · intro x hx
    rw [litVal_clear hl hx T.len]
    by_cases h1 : x = l
    · subst h1; simp only [if_true, true_iff]; exact ⟨lno, lno'⟩
    · by_cases h2 : x = -l
      · subst h2; rw [if_neg h1, if_pos rfl]
        simp only [true_iff, Int.neg_neg]; exact ⟨lno', lno⟩
      · rw [if_neg h1, if_neg h2, T.zero x hx, mem_iff x h1, mem_iff (-x) (by (first | lia | omega))]

theorem Tr.clear {n : Nat} {A : List Int} : ∀ {B W : List Int}, Tr n W (A ++ B) → Tr n (clearW W B) A
  | [], W, T => by simpa [clearW] using T
  | l :: B, W, T => by simp only [clearW]; exact Tr.clear T.drop1

theorem firstFree_zero {W : List Int} {n : Nat} (h : firstFree W n = 0) : ∀ v, 1 ≤ v → v ≤ n → W.getD v 0 ≠ 0 := by
  unfold firstFree at h
  split at h
  · cases h
  · rename_i e
    intro v h1 h2
    have := List.find?_eq_none.mp e (v - 1) (List.mem_range.mpr (by (first | lia | omega)))
    rw [Nat.sub_add_cancel h1] at this
    simpa using this
theorem firstFree_succ {W : List Int} {n v : Nat} (h : firstFree W n = v + 1) : v < n ∧ W.getD (v + 1) 0 = 0 := by
  unfold firstFree at h
  split at h
  · rename_i i e
    have hi : i = v := by (first | lia | omega)
    subst hi
    exact ⟨List.mem_range.mp (List.mem_of_find?_eq_some e), by simpa using List.find?_some e⟩
  · cases h

/-- a number for a trail: it grows with every turn -/
def dig (O : List Int) (M : List Nat) (i : Nat) : Nat := if i < O.length then (if i ∈ M then 1 else 2) else 0
def val (d : Nat → Nat) : Nat → Nat
  | 0 => 0
  | n + 1 => 3 * val d n + d n
theorem val_lt {d : Nat → Nat} (h : ∀ i, d i ≤ 2) : ∀ n, val d n < 3 ^ n
  | 0 => by simp [val]
  | n + 1 => by
    have := val_lt h n
    have := h n
    simp only [val, Nat.pow_succ]; (first | lia | omega)
theorem val_eq {d d' : Nat → Nat} : ∀ n, (∀ i, i < n → d i = d' i) → val d n = val d' n
  | 0, _ => rfl
  | n + 1, h => by simp only [val]; rw [val_eq n (fun i hi => h i (by (first | lia | omega))), h n (by (first | lia | omega))]
theorem val_grows {d d' : Nat → Nat} (h2 : ∀ i, d i ≤ 2) {j : Nat} (he : ∀ i, i < j → d i = d' i) (hj : d j < d' j) : ∀ n, j < n → val d n < val d' n
  | 0, h => absurd h (Nat.not_lt_zero _)
  | n + 1, h => by
    simp only [val]
    by_cases q : j = n
    · subst q
      rw [val_eq j he]; (first | lia | omega)
    · have := val_grows h2 he hj n (by (first | lia | omega))
      have := h2 n
      (first | lia | omega)
theorem dig_le (O : List Int) (M : List Nat) (i : Nat) : dig O M i ≤ 2 := by unfold dig; (repeat' split) <;> (first | lia | omega)

structure SInv (cs : List (List Int)) (n : Nat) (s : SSt) : Prop where
  tr : Tr n s.W s.O
  up : s.M.Pairwise (· < ·)
  inb : ∀ j ∈ s.M, j < s.O.length
  imp : ∀ i, i < s.O.length → i ∉ s.M → ∀ m, Models m cs → (∀ j ∈ s.M, j < i → Sat m (s.O.getD j 0)) → Sat m (s.O.getD i 0)

theorem SInv.bears {cs : List (List Int)} {n : Nat} {s : SSt} (I : SInv cs n s) : Bears (fun m => Models m cs ∧ ∀ j ∈ s.M, Sat m (s.O.getD j 0)) s.O := by
  rintro m ⟨hm, hd⟩ l hl
  obtain ⟨i, hi, rfl⟩ := List.getElem_of_mem hl
  have e : s.O.getD i 0 = s.O[i] := by simp [hi]
  by_cases q : i ∈ s.M
  · rw [← e]; exact hd i q
  · rw [← e]; exact I.imp i hi q m hm fun j hj _ => hd j hj

theorem getD_append_left' (A B : List Int) {i : Nat} (h : i < A.length) : (A ++ B).getD i 0 = A.getD i 0 := by
  simp only [List.getD_eq_getElem?_getD, List.getElem?_append_left h]

theorem turn_ok {cs : List (List Int)} {n : Nat} {s : SSt} (hv : ValidCs n cs) (I : SInv cs n s) :
    match turnF cs n s with
    | .done b => (b = true ↔ ∃ m, Models m cs)
    | .go s' => SInv cs n s' ∧ val (dig s.O s.M) n < val (dig s'.O s'.M) n := by
  have R := prop_ok (k := n + 1) (P := fun m => Models m cs ∧ ∀ j ∈ s.M, Sat m (s.O.getD j 0)) hv (fun m hm => hm.1) I.tr I.bears
  unfold turnF
  generalize propF (n + 1) cs s.W s.O = r at R
  obtain ⟨W, O, b⟩ := r
  obtain ⟨X, eX⟩ := R.ext
  have T : Tr n W O := R.tr
  simp only at eX
  cases b with
  | false =>
    simp only
    have no := R.fail rfl
    cases e : s.M.getLast? with
    | none =>
      simp only
      have eM : s.M = [] := List.getLast?_eq_none_iff.mp e
      simp only [Bool.false_eq_true, false_iff]
      rintro ⟨m, hm⟩
      exact no m ⟨hm, by rw [eM]; intro j hj; cases hj⟩
    | some j =>
      simp only
      obtain ⟨M', eM⟩ := List.getLast?_eq_some_iff.mp e
      have eD : s.M.dropLast = M' := by rw [eM]; simp
      rw [eD]
      have hj : j < s.O.length := I.inb j (by rw [eM]; simp)
      have up := I.up
      rw [eM, List.pairwise_append] at up
      have lt : ∀ i ∈ M', i < j := fun i hi => up.2.2 i hi j (by simp)
      have eJ : O.getD j 0 = s.O.getD j 0 := by rw [eX]; exact getD_append_left' _ _ hj
      have eT : O.take j = s.O.take j := by rw [eX, List.take_append_of_le_length (by (first | lia | omega))]
      have hjO : j < O.length := by rw [eX, List.length_append]; (first | lia | omega)
      have T1 : Tr n (clearW W (O.drop j)) (O.take j) := Tr.clear (by rw [List.take_append_drop]; exact T)
      have hin : O.getD j 0 ∈ O := by
        have : O.getD j 0 = O[j] := by simp [hjO]
        rw [this]; exact List.getElem_mem _
      have hvj : Valid n (O.getD j 0) := T.val _ hin
      have hz : litVal (-(O.getD j 0)) (clearW W (O.drop j)) = 0 := by
        rw [T1.zero _ hvj.neg, Int.neg_neg]
        have nd := T.nodup
        have split : O = O.take j ++ (O.getD j 0) :: O.drop (j + 1) := by
          have : O.getD j 0 = O[j] := by simp [hjO]
          rw [this, ← List.drop_eq_getElem_cons hjO, List.take_append_drop]
        refine ⟨fun q => T.anti _ hin (List.mem_of_mem_take q), fun q => ?_⟩
        rw [split, List.nodup_append] at nd
        exact nd.2.2 _ q _ List.mem_cons_self rfl
      have lenT : (s.O.take j).length = j := by rw [List.length_take]; (first | lia | omega)
      have get_lo : ∀ i, i < j → (s.O.take j ++ [-(s.O.getD j 0)]).getD i 0 = s.O.getD i 0 := fun i hi => by
        rw [getD_append_left' _ _ (by (first | lia | omega))]
        simp only [List.getD_eq_getElem?_getD, List.getElem?_take, if_pos hi]
      have get_j : (s.O.take j ++ [-(s.O.getD j 0)]).getD j 0 = -(s.O.getD j 0) := by
        simp only [List.getD_eq_getElem?_getD]
        rw [List.getElem?_append_right (by (first | lia | omega)), lenT]
        simp
      have T2 := T1.snoc hvj.neg hz
      rw [eT, eJ] at T2
      rw [eT, eJ]
      refine ⟨⟨T2, up.1, ?_, ?_⟩, ?_⟩
      · intro i hi
        have := lt i hi
        simp only [List.length_append, lenT, List.length_singleton]; (first | lia | omega)
      · intro i hi hni m hm hd
        simp only [List.length_append, lenT, List.length_singleton] at hi
        by_cases q : i < j
        · simp only [get_lo i q]
          refine I.imp i (by (first | lia | omega)) (fun z => ?_) m hm fun j' hj' hlt => ?_
          · rw [eM] at z
            rcases List.mem_append.mp z with z | z
            · exact hni z
            · have := List.mem_singleton.mp z; (first | lia | omega)
          · rw [eM] at hj'
            rcases List.mem_append.mp hj' with z | z
            · have := hd j' z hlt
              rwa [get_lo j' (by have := lt j' z; (first | lia | omega))] at this
            · have := List.mem_singleton.mp z; (first | lia | omega)
        · have : i = j := by (first | lia | omega)
          subst this
          simp only [get_j]
          have hvj' : Valid n (s.O.getD i 0) := eJ ▸ hvj
          rw [sat_neg hvj'.1]
          intro hs
          refine no m ⟨hm, fun j' hj' => ?_⟩
          rw [eM] at hj'
          rcases List.mem_append.mp hj' with z | z
          · have := hd j' z (lt j' z)
            rwa [get_lo j' (lt j' z)] at this
          · rw [List.mem_singleton.mp z]; exact hs
      · have hjn : j < n := by have := I.tr.length_le; (first | lia | omega)
        refine val_grows (fun i => dig_le _ _ i) (j := j) (fun i hi => ?_) ?_ n hjn
        · unfold dig
          simp only [List.length_append, lenT, List.length_singleton]
          have q1 : i < s.O.length := by (first | lia | omega)
          have q2 : i < j + 1 := by (first | lia | omega)
          have : i ≠ j := by (first | lia | omega)
          simp only [if_pos q1, if_pos q2, eM]
          simp [this]
        · unfold dig
          simp only [List.length_append, lenT, List.length_singleton]
          have q1 : j < j + 1 := by (first | lia | omega)
          have q2 : j ∈ s.M := by rw [eM]; simp
          have q3 : j ∉ M' := fun z => by have := lt j z; (first | lia | omega)
          simp only [if_pos hj, if_pos q1, if_pos q2, if_neg q3]
          (first | lia | omega)
  | true =>
    simp only
    have fx := R.fix rfl
    have hlen : s.O.length ≤ O.length := by rw [eX, List.length_append]; (first | lia | omega)
    have hOn := T.length_le
    cases e : firstFree W n with
    | zero =>
      simp only [true_iff]
      refine ⟨fun v => W.getD v 0 == 1, ?_⟩
      have full := firstFree_zero e
      rcases fx with q | q
      · simp only at q; (first | lia | omega)
      · have nz : ∀ l, Valid n l → litVal l W ≠ 0 := fun l hl h0 => by
          have h1 := hl.1; have h2 := hl.2
          unfold litVal at h0
          by_cases hp : 0 < l
          · rw [if_pos hp] at h0; exact full l.toNat (by (first | lia | omega)) (by (first | lia | omega)) h0
          · rw [if_neg hp] at h0; exact full (-l).toNat (by (first | lia | omega)) (by (first | lia | omega)) (by (first | lia | omega))
        intro c hc
        rcases q c hc with z | z
        · obtain ⟨l, hl, h1⟩ := clause_tru z
          refine ⟨l, hl, ?_⟩
          have vl := hv c hc l hl
          have := vl.1
          unfold Sat
          replace h1 : litVal l W = 1 := h1
          unfold litVal at h1
          by_cases hp : 0 < l
          · rw [if_pos hp] at h1 ⊢
            have : l.natAbs = l.toNat := by (first | lia | omega)
            show (W.getD l.natAbs 0 == 1) = true
            rw [this, h1]; rfl
          · rw [if_neg hp] at h1 ⊢
            have e2 : l.natAbs = (-l).toNat := by (first | lia | omega)
            have : W.getD (-l).toNat 0 = -1 := by (first | lia | omega)
            show (W.getD l.natAbs 0 == 1) = false
            rw [e2, this]; rfl
        · obtain ⟨l, hl, _, _, _, h0, _⟩ := clause_opn z
          exact absurd h0 (nz l (hv c hc l hl))
    | succ v =>
      simp only
      obtain ⟨hvn, h0⟩ := firstFree_succ e
      have hval : Valid n ((v + 1 : Nat) : Int) := ⟨by (first | lia | omega), by (first | lia | omega)⟩
      have hz : litVal ((v + 1 : Nat) : Int) W = 0 := by
        unfold litVal
        rw [if_pos (by (first | lia | omega))]
        have : ((v + 1 : Nat) : Int).toNat = v + 1 := by (first | lia | omega)
        rw [this]; exact h0
      have T2 := T.snoc hval hz
      have hlen2 := T2.length_le
      simp only [List.length_append, List.length_singleton] at hlen2
      refine ⟨⟨T2, ?_, ?_, ?_⟩, ?_⟩
      · rw [List.pairwise_append]
        refine ⟨I.up, by simp, fun a ha b hb => ?_⟩
        rw [List.mem_singleton.mp hb]
        have := I.inb a ha
        (first | lia | omega)
      · intro j hj
        simp only [List.length_append, List.length_singleton]
        rcases List.mem_append.mp hj with z | z
        · have := I.inb j z; (first | lia | omega)
        · have := List.mem_singleton.mp z; (first | lia | omega)
      · intro i hi hni m hm hd
        simp only [List.length_append, List.length_singleton] at hi
        have hi' : i < O.length := by
          have : i ≠ O.length := fun z => hni (by rw [z]; simp)
          (first | lia | omega)
        have hni' : i ∉ s.M := fun z => hni (List.mem_append_left _ z)
        have lo : ∀ j, j < s.O.length → (O ++ [((v + 1 : Nat) : Int)]).getD j 0 = s.O.getD j 0 := fun j hj => by
          rw [getD_append_left' _ _ (by (first | lia | omega)), eX, getD_append_left' _ _ hj]
        by_cases q : i < s.O.length
        · simp only [lo i q]
          refine I.imp i q hni' m hm fun j hj hlt => ?_
          have := hd j (List.mem_append_left _ hj) hlt
          rwa [lo j (I.inb j hj)] at this
        · simp only [getD_append_left' _ _ hi']
          have e3 : O.getD i 0 = O[i] := by simp [hi']
          rw [e3]
          refine R.bears m ⟨hm, fun j hj => ?_⟩ _ (List.getElem_mem _)
          have hj' := I.inb j hj
          have := hd j (List.mem_append_left _ hj) (by (first | lia | omega))
          rwa [lo j hj'] at this
      · refine val_grows (fun i => dig_le _ _ i) (j := s.O.length) (fun i hi => ?_) ?_ n (by (first | lia | omega))
        · unfold dig
          simp only [List.length_append, List.length_singleton]
          have q2 : i < O.length + 1 := by (first | lia | omega)
          have : i ≠ O.length := by (first | lia | omega)
          simp only [if_pos hi, if_pos q2]
          simp [this]
        · unfold dig
          simp only [List.length_append, List.length_singleton]
          have q1 : ¬ (s.O.length < s.O.length) := by (first | lia | omega)
          have q2 : s.O.length < O.length + 1 := by (first | lia | omega)
          simp only [if_neg q1, if_pos q2]
          split <;> (first | lia | omega)

theorem solve_ok {cs : List (List Int)} {n : Nat} (hv : ValidCs n cs) : ∀ {f : Nat} {s : SSt}, SInv cs n s → 3 ^ n ≤ val (dig s.O s.M) n + f → ∃ b, solveF cs n f s = some b ∧ (b = true ↔ ∃ m, Models m cs)
  | 0, s, _, h => by
    have := val_lt (fun i => dig_le s.O s.M i) n
    (first | lia | omega)
  | f + 1, s, I, h => by
    have R := turn_ok hv I
    unfold solveF
    cases e : turnF cs n s with
    | done b => rw [e] at R; exact ⟨b, rfl, R⟩
    | go s' =>
      rw [e] at R
      obtain ⟨I', g⟩ := R
      exact solve_ok hv I' (by (first | lia | omega))

theorem solver_agrees {cs : List (List Int)} {n : Nat} (hn : n ≤ 3) (hv : ValidCs n cs) : solveF cs n (2 ^ (n + 2) + 8) ⟨List.replicate (n + 1) 0, [], []⟩ = some (truthTable cs n) := by
  have hf : 3 ^ n ≤ 2 ^ (n + 2) + 8 := by
    have : n = 0 ∨ n = 1 ∨ n = 2 ∨ n = 3 := by (first | lia | omega)
    rcases this with rfl | rfl | rfl | rfl <;> decide
  obtain ⟨b, e, hb⟩ := solve_ok hv (f := 2 ^ (n + 2) + 8) (s := ⟨List.replicate (n + 1) 0, [], []⟩) ⟨start_tr n, by simp, by simp, fun i hi => by simp at hi⟩ (by (first | lia | omega))
  rw [e]
  rw [← truthTable_iff hv] at hb
  congr 1
  cases b <;> cases q : truthTable cs n <;> simp_all

end Mine
namespace Mine
open PySem PyProof.Rows

/-- all that is there stays -/
abbrev Keep (h h' : Heap) : Prop := ∀ b o, h.get? b = some o → h'.get? b = some o
theorem Keep.refl (h : Heap) : Keep h h := fun _ _ e => e
theorem Keep.trans {a b c : Heap} (x : Keep a b) (y : Keep b c) : Keep a c := fun d o e => y d o (x d o e)

/-- nothing but heap and tokens is turned -/
structure Same (s s' : Shared) : Prop where
  gens : s'.gens = s.gens
  drawn : s'.drawn = s.drawn
  os : s'.os = s.os
theorem Same.refl (s : Shared) : Same s s := ⟨rfl, rfl, rfl⟩
theorem Same.of (s : Shared) (h : Heap) (t : Nat) : Same s { s with heap := h, toks := t } := ⟨rfl, rfl, rfl⟩
theorem Same.trans {a b c : Shared} (x : Same a b) (y : Same b c) : Same a c := ⟨y.gens.trans x.gens, y.drawn.trans x.drawn, y.os.trans x.os⟩
theorem Same.set {a b : Shared} (x : Same a b) (h : Heap) (t : Nat) : Same a { b with heap := h, toks := t } := ⟨x.gens, x.drawn, x.os⟩

section
variable {prog : Program} {w : World} {A : Around} {E : Value → Shared → Prop} {s : Shared} {env : Env}

theorem loop_of {g : Heap} {x : Str} {px : Pos} {body : List Stmt} {I : Addr} {fp wr : List Addr} {n : Nat} {P : Nat → Value → Prop} {St : Nat → Heap → Prop} {Q : Flow → Shared → Prop} {R : Value → Shared → Prop}
    {m₀ : Str → Option Value} (J : Nat → (Str → Option Value) → Shared → Prop)
    (W : Walks prog w A I fp wr n P St) (hLf : env.locals ∉ fp) (hwr : ∀ b ∈ wr, g.get? b = none)
    (hx : env.kindOf x = some .local) (hp : (env.scope.kind == .class || (env.scope.kind == .module && env.locals != env.globals)) = false)
    (hst : St 0 s.heap) (F : Fr g env.locals s.heap m₀) (h0 : J 0 m₀ s)
    (hJ : ∀ i m s h' tk, J i m s → (∀ b o, b ∉ wr → b ≠ env.locals → s.heap.get? b = some o → h'.get? b = some o) → J i m { s with heap := h', toks := tk })
    (turn : ∀ i v m s₁ E', i < n → P i v → J i m s₁ → Fr g env.locals s₁.heap (fun y => if y = x then some v else m y) → St (i + 1) s₁.heap →
      wpAny (model prog w) A (execs body env) (fun f s' => match f with
        | .next | .cont => ∃ m', Fr g env.locals s'.heap m' ∧ (∀ b ∈ fp, ∀ o, s₁.heap.get? b = some o → s'.heap.get? b = some o) ∧ J (i + 1) m' s'
        | .brk => Q .next s'
        | .ret v => Q (.ret v) s') E' s₁)
    (done : ∀ m s', J n m s' → Fr g env.locals s'.heap m → Q .next s') :
    codeAny (model prog w) A (.forLoop (.Name x px) (.ref I) body [] env) (fun r s' => match r with | .ok f => Q f s' | .error e => R e s') s := by
  have hCw : env.locals ∉ wr := fun h => hLf (W.sub _ h)
  refine codeAny_forLoop (fun k s' => ∃ i m, Fr g env.locals s'.heap m ∧ St i s'.heap ∧ J i m s' ∧ i ≤ n ∧ k = n + 1 - i) ?_ (n + 1) ⟨0, m₀, F, hst, h0, Nat.zero_le _, rfl⟩
  rintro k s' ⟨i, m, F', hst', hJi, hi, rfl⟩
  have moved : ∀ {h₁ : Heap}, (∀ b o, b ∉ wr → s'.heap.get? b = some o → h₁.get? b = some o) → Fr g env.locals h₁ m := fun {h₁} hk => by
    obtain ⟨oL, es, ep, hL, r⟩ := F'.ns
    refine ⟨⟨oL, es, ep, hk _ _ hCw hL, r⟩, fun b o e => hk b o (fun hb => ?_) (F'.keep b o e), F'.above⟩
    rw [hwr b hb] at e; cases e
  by_cases hlt : i < n
  · refine W.item i _ _ _ hlt hst' fun v h₁ tk₁ hP hst₁ hk₁ => ?_
    have F₁ := moved hk₁
    refine wpAny_assign_Name (wpAny_storeName_local hx F₁.ns (fun h₂ hn₂ hs₂ => ?_) hp)
    have F₂ := F₁.set hn₂ hs₂
    have hst₂ : St (i + 1) h₂ := W.frame _ _ _ hst₁ fun b hb o e => hs₂.extBut b o (fun h => hLf (h ▸ hb)) e
    refine wpAny_mono (turn i v m { s' with heap := h₂, toks := tk₁ + 1 } _ hlt hP (hJ i m s' h₂ (tk₁ + 1) hJi fun b o hb hbL e => hs₂.extBut b o hbL (hk₁ b o hb e)) F₂ hst₂) (fun f s₃ h₃ => ?_) fun _ _ e => e
    have fin : (∃ m', Fr g env.locals s₃.heap m' ∧ (∀ b ∈ fp, ∀ o, h₂.get? b = some o → s₃.heap.get? b = some o) ∧ J (i + 1) m' s₃) →
        ∃ k', k' < n + 1 - i ∧ ∃ i m, Fr g env.locals s₃.heap m ∧ St i s₃.heap ∧ J i m s₃ ∧ i ≤ n ∧ k' = n + 1 - i := by
      rintro ⟨m', F₃, hk₃, hJ₃⟩
      exact ⟨n + 1 - (i + 1), by (first | lia | omega), i + 1, m', F₃, W.frame _ _ _ hst₂ hk₃, hJ₃, hlt, rfl⟩
    cases f with
    | next => exact fin h₃
    | cont => exact fin h₃
    | brk => exact h₃
    | ret v => exact h₃
  · have hin : i = n := by (first | lia | omega)
    subst hin
    refine W.done _ _ _ hst' fun h₁ tk₁ hk₁ => wpAny_execs_nil ?_
    exact done m _ (hJ i m s' h₁ tk₁ hJi fun b o hb _ e => hk₁ b o hb e) (moved hk₁)

theorem fresh_of {g h : Heap} (k : Keep g h) : g.get? h.objs.size = none := by
  cases e : g.get? h.objs.size with
  | none => rfl
  | some o => exact absurd (Heap.lt_size (k _ _ e)) (Nat.lt_irrefl _)

/-- over a list that stays as it is -/
theorem for_list {g : Heap} {x : Str} {px : Pos} {body : List Stmt} {l : Addr} {items : Array Value} {Q : Flow → Shared → Prop} {R : Value → Shared → Prop}
    {m₀ : Str → Option Value} (J : Nat → (Str → Option Value) → Shared → Prop)
    (hh : A.handled = none) (hl : s.heap.IsList l items) (hlL : l ≠ env.locals)
    (hx : env.kindOf x = some .local) (hp : (env.scope.kind == .class || (env.scope.kind == .module && env.locals != env.globals)) = false)
    (F : Fr g env.locals s.heap m₀) (h0 : ∀ h' tk, Keep s.heap h' → J 0 m₀ { s with heap := h', toks := tk })
    (hJ : ∀ i m s₁ h' tk, J i m s₁ → (∀ b o, b ≠ s.heap.objs.size → b ≠ env.locals → s₁.heap.get? b = some o → h'.get? b = some o) → J i m { s₁ with heap := h', toks := tk })
    (turn : ∀ i v m s₁ E', items[i]? = some v → J i m s₁ → Fr g env.locals s₁.heap (fun y => if y = x then some v else m y) → s₁.heap.IsList l items → (∃ o, s₁.heap.get? s.heap.objs.size = some o) →
      wpAny (model prog w) A (execs body env) (fun f s' => match f with
        | .next | .cont => ∃ m', Fr g env.locals s'.heap m' ∧ (∀ o, s₁.heap.get? s.heap.objs.size = some o → s'.heap.get? s.heap.objs.size = some o) ∧ (∀ o, s₁.heap.get? l = some o → s'.heap.get? l = some o) ∧ J (i + 1) m' s'
        | .brk => Q .next s'
        | .ret v => Q (.ret v) s') E' s₁)
    (done : ∀ m s', J items.size m s' → Fr g env.locals s'.heap m → Q .next s') :
    wpAny (model prog w) A (pyIter (.ref l)) (fun it s₂ => codeAny (model prog w) A (.forLoop (.Name x px) it body [] env) (fun r s' => match r with | .ok f => Q f s' | .error e => R e s') s₂) E s := by
  obtain ⟨ol, hol, _⟩ := id hl
  have hne : l ≠ s.heap.objs.size := Nat.ne_of_lt (Heap.lt_size hol)
  refine wpAny_pyIter_list hl ?_
  refine loop_of (n := items.size) J (Walks.list hh s.heap.objs.size l hne items) ?_ ?_ hx hp
    ⟨⟨_, Heap.get?_push_size _ rfl, rfl, rfl⟩, hl.at fun o e => Heap.get?_push_of_some _ e⟩ (F.push _) (h0 _ _ fun b o e => Heap.get?_push_of_some _ e) ?_ ?_ done
  · intro hm
    rcases List.mem_cons.mp hm with e | hm
    · exact absurd F.ns.lt (e ▸ Nat.lt_irrefl _)
    · exact hlL (List.mem_singleton.mp hm).symm
  · intro b hb
    rw [List.mem_singleton.mp hb]
    exact fresh_of F.keep
  · intro i m s₁ h' tk hj hk
    exact hJ i m s₁ h' tk hj fun b o hb hbL e => hk b o (fun hm => hb (List.mem_singleton.mp hm)) hbL e
  · intro i v m s₁ E' _ hP hj F₁ hst
    obtain ⟨oI, hoI, _⟩ := id hst.1
    refine wpAny_mono (turn i v m s₁ E' hP hj F₁ hst.2 ⟨oI, hoI⟩) (fun f s' h => ?_) fun _ _ e => e
    have fin : (∃ m', Fr g env.locals s'.heap m' ∧ (∀ o, s₁.heap.get? s.heap.objs.size = some o → s'.heap.get? s.heap.objs.size = some o) ∧ (∀ o, s₁.heap.get? l = some o → s'.heap.get? l = some o) ∧ J (i + 1) m' s') →
        ∃ m', Fr g env.locals s'.heap m' ∧ (∀ b ∈ [s.heap.objs.size, l], ∀ o, s₁.heap.get? b = some o → s'.heap.get? b = some o) ∧ J (i + 1) m' s' := by
      rintro ⟨m', F', k1, k2, j⟩
      refine ⟨m', F', fun b hb o e => ?_, j⟩
      rcases List.mem_cons.mp hb with q | q
      · subst q; exact k1 o e
      · rw [List.mem_singleton.mp q] at e ⊢; exact k2 o e
    cases f with
    | next => exact fin h
    | cont => exact fin h
    | brk => exact h
    | ret v => exact h

/-- over a range by ones -/
theorem for_range {g : Heap} {x : Str} {px : Pos} {body : List Stmt} {r : Addr} {a₀ b₀ : Int} {t₀ u₀ v₀ : Tok} {n : Nat} {Q : Flow → Shared → Prop} {R : Value → Shared → Prop}
    {m₀ : Str → Option Value} (J : Nat → (Str → Option Value) → Shared → Prop)
    (hh : A.handled = none) (hr : IsRange s.heap r a₀ b₀ 1 t₀ u₀ v₀) (hsmall : Builtin.Range.small a₀ b₀ 1 = true) (hn : Builtin.Range.rangeSize a₀ b₀ 1 = (n : Int))
    (hx : env.kindOf x = some .local) (hp : (env.scope.kind == .class || (env.scope.kind == .module && env.locals != env.globals)) = false)
    (F : Fr g env.locals s.heap m₀) (h0 : ∀ h' tk, Keep s.heap h' → J 0 m₀ { s with heap := h', toks := tk })
    (hJ : ∀ i m s₁ h' tk, J i m s₁ → (∀ b o, b ≠ s.heap.objs.size → b ≠ env.locals → s₁.heap.get? b = some o → h'.get? b = some o) → J i m { s₁ with heap := h', toks := tk })
    (turn : ∀ i t m s₁ E', i < n → J i m s₁ → Fr g env.locals s₁.heap (fun y => if y = x then some (.int (a₀ + i) t) else m y) → (∃ o, s₁.heap.get? s.heap.objs.size = some o) →
      wpAny (model prog w) A (execs body env) (fun f s' => match f with
        | .next | .cont => ∃ m', Fr g env.locals s'.heap m' ∧ (∀ o, s₁.heap.get? s.heap.objs.size = some o → s'.heap.get? s.heap.objs.size = some o) ∧ J (i + 1) m' s'
        | .brk => Q .next s'
        | .ret v => Q (.ret v) s') E' s₁)
    (done : ∀ m s', J n m s' → Fr g env.locals s'.heap m → Q .next s') :
    wpAny (model prog w) A (pyIter (.ref r)) (fun it s₂ => codeAny (model prog w) A (.forLoop (.Name x px) it body [] env) (fun r s' => match r with | .ok f => Q f s' | .error e => R e s') s₂) E s := by
  refine wpAny_pyIter_range hr hsmall ?_
  refine loop_of (n := n) J (Walks.range hh s.heap.objs.size a₀ 1 n) ?_ ?_ hx hp (by show IsRangeIter _ _ _ _ _; rw [hn]; simpa using Heap.get?_push_size _ rfl) (F.push _) (h0 _ _ fun b o e => Heap.get?_push_of_some _ e) ?_ ?_ done
  · intro hm
    exact absurd F.ns.lt ((List.mem_singleton.mp hm) ▸ Nat.lt_irrefl _)
  · intro b hb
    rw [List.mem_singleton.mp hb]
    exact fresh_of F.keep
  · intro i m s₁ h' tk hj hk
    exact hJ i m s₁ h' tk hj fun b o hb hbL e => hk b o (fun hm => hb (List.mem_singleton.mp hm)) hbL e
  · rintro i v m s₁ E' hi ⟨t, rfl⟩ hj F₁ hst
    have hst' : s₁.heap.get? s.heap.objs.size = some _ := hst
    rw [Int.mul_one] at F₁
    refine wpAny_mono (turn i t m s₁ E' hi hj F₁ ⟨_, hst'⟩) (fun f s' h => ?_) fun _ _ e => e
    have fin : (∃ m', Fr g env.locals s'.heap m' ∧ (∀ o, s₁.heap.get? s.heap.objs.size = some o → s'.heap.get? s.heap.objs.size = some o) ∧ J (i + 1) m' s') →
        ∃ m', Fr g env.locals s'.heap m' ∧ (∀ b ∈ [s.heap.objs.size], ∀ o, s₁.heap.get? b = some o → s'.heap.get? b = some o) ∧ J (i + 1) m' s' := by
      rintro ⟨m', F', k1, j⟩
      refine ⟨m', F', fun b hb o e => ?_, j⟩
      rw [List.mem_singleton.mp hb] at e ⊢; exact k1 o e
    cases f with
    | next => exact fin h
    | cont => exact fin h
    | brk => exact h
    | ret v => exact h
end
end Mine
namespace Mine
open PySem PyProof.Rows

/-- more generators, none of the elder turned; the new ones bare -/
structure MoreGens (a b : Array GenState) : Prop where
  size : a.size ≤ b.size
  old : ∀ k, k < a.size → b[k]? = a[k]?
  bare : ∀ k x, a.size ≤ k → b[k]? = some x → x.bare = true
theorem MoreGens.refl (a : Array GenState) : MoreGens a a := ⟨Nat.le_refl _, fun _ _ => rfl, fun k x hk e => by rw [Array.getElem?_eq_none hk] at e; cases e⟩
theorem MoreGens.trans {a b c : Array GenState} (x : MoreGens a b) (y : MoreGens b c) : MoreGens a c := by
  refine ⟨Nat.le_trans x.size y.size, fun k hk => (y.old k (Nat.lt_of_lt_of_le hk x.size)).trans (x.old k hk), fun k z hk e => ?_⟩
  by_cases q : k < b.size
  · rw [y.old k q] at e; exact x.bare k z hk e
  · exact y.bare k z (Nat.le_of_not_lt q) e

/-- nothing is turned but what lies at ex; generators may be made -/
structure Calm (ex : List Addr) (s₀ s : Shared) : Prop where
  heap : ∀ b o, b ∉ ex → s₀.heap.get? b = some o → s.heap.get? b = some o
  gens : MoreGens s₀.gens s.gens
  drawn : s.drawn = s₀.drawn
  os : s.os = s₀.os
theorem Calm.refl (ex : List Addr) (s : Shared) : Calm ex s s := ⟨fun _ _ _ e => e, .refl _, rfl, rfl⟩
theorem Calm.trans {ex : List Addr} {a b c : Shared} (x : Calm ex a b) (y : Calm ex b c) : Calm ex a c :=
  ⟨fun d o h1 e => y.heap d o h1 (x.heap d o h1 e), x.gens.trans y.gens, y.drawn.trans x.drawn, y.os.trans x.os⟩
theorem Calm.of {ex : List Addr} {s : Shared} {h' : Heap} {tk : Nat} (hk : ∀ b o, b ∉ ex → s.heap.get? b = some o → h'.get? b = some o) : Calm ex s { s with heap := h', toks := tk } := ⟨hk, .refl _, rfl, rfl⟩
theorem Calm.mono {ex ex' : List Addr} {a b : Shared} (x : Calm ex a b) (h : ∀ d ∈ ex, d ∈ ex') : Calm ex' a b := ⟨fun d o h1 e => x.heap d o (fun q => h1 (h d q)) e, x.gens, x.drawn, x.os⟩

section
variable {prog : Program} {w : World} {A : Around}

/-- the element, wherever the generator stands; J: what holds of the heap there -/
def EltN (prog : Program) (w : World) (cenv : Env) (x : Str) (elt : Expr) (we : List Addr) (n₀ : Nat) (P F : Nat → Value → Prop) (J : Heap → Prop) (D U : Nat) : Prop :=
  ∀ (A' : Around) (E' : Value → Shared → Prop) i v (s₂ : Shared) m₂, A'.handled = none → A'.depth ≤ D → A'.units ≤ U → i < n₀ → P i v → s₂.heap.Ns cenv.locals m₂ → m₂ x = some v → J s₂.heap →
    wpAny (model prog w) A' (eval elt cenv) (fun y s₃ => F i y ∧ Calm we s₂ s₃ ∧ J s₃.heap) E' s₂

/-- where things lie -/
structure LieN (C : Addr) (fp₀ wr₀ fj we : List Addr) (J : Heap → Prop) : Prop where
  cf : C ∉ fp₀
  cj : C ∉ fj
  jw : ∀ b ∈ fj, b ∉ wr₀
  ej : ∀ b ∈ we, b ∈ fj
  ef : ∀ b ∈ we, b ∉ fp₀
  st : ∀ h h' : Heap, J h → (∀ b ∈ fj, ∀ o, h.get? b = some o → h'.get? b = some o) → J h'

abbrev exN (C : Addr) (wr₀ we : List Addr) : List Addr := C :: (wr₀ ++ we)
abbrev fpN (C : Addr) (fp₀ fj : List Addr) : List Addr := C :: (fp₀ ++ fj)

structure FromG (g : Nat) (a b : Array GenState) : Prop where
  size : a.size ≤ b.size
  old : ∀ k, k < g → b[k]? = a[k]?
  bare : (∀ k x, g ≤ k → a[k]? = some x → x.bare = true) → ∀ k x, g ≤ k → b[k]? = some x → x.bare = true

theorem setGen_ne {s : Shared} {g k : Nat} {x : GenState} (h : k ≠ g) : (s.setGen g x).gens[k]? = s.gens[k]? := (GenOnly.setGen s g x).2 k h
theorem setGen_size {s : Shared} {g : Nat} {x : GenState} : (s.setGen g x).gens.size = s.gens.size := (GenOnly.setGen s g x).1

theorem fromG_step {s s₁ : Shared} {g : Nat} {gs y : GenState} (hgs : s.gens[g]? = some gs) (x : MoreGens (s.setGen g .running).gens s₁.gens) (hy : y.bare = true) : FromG g s.gens (s₁.setGen g y).gens := by
  have hlt : g < s.gens.size := (Array.getElem?_eq_some_iff.mp hgs).1
  have h1 := x.size
  rw [setGen_size] at h1
  have hg1 : s₁.gens[g]? = some .running := by rw [x.old g (by rw [setGen_size]; exact hlt)]; exact setGen_self hgs
  refine ⟨by rw [setGen_size]; exact h1, fun k hk => ?_, fun hb k z hk e => ?_⟩
  · rw [setGen_ne (Nat.ne_of_lt hk), x.old k (by rw [setGen_size]; (first | lia | omega)), setGen_ne (Nat.ne_of_lt hk)]
  · by_cases q : k = g
    · subst q; rw [setGen_self hg1] at e; cases e; exact hy
    · rw [setGen_ne q] at e
      by_cases r : k < s.gens.size
      · rw [x.old k (by rw [setGen_size]; exact r), setGen_ne q] at e
        exact hb k z hk e
      · exact x.bare k z (by rw [setGen_size]; (first | lia | omega)) e

end
end Mine
namespace Mine
open PySem PySem.W PyProof.Rows

/-- room for frames and C units -/
structure Room (A : Around) (d : Nat) : Prop where
  handled : A.handled = none
  depth : A.depth + d < recursionLimit
  units : A.units + 8 * d < cLine
theorem Room.deeper {A : Around} {d : Nat} (R : Room A (d + 1)) (env : Env) : Room (A.deeper env) d :=
  ⟨R.handled, by have := R.depth; show A.depth + 1 + d < recursionLimit; (first | lia | omega), by have := R.units; show A.units + 3 + 8 * d < cLine; (first | lia | omega)⟩
theorem Room.less {A : Around} {d e : Nat} (R : Room A d) (h : e ≤ d) : Room A e :=
  ⟨R.handled, by have := R.depth; (first | lia | omega), by have := R.units; (first | lia | omega)⟩
theorem Room.room {A : Around} {d : Nat} (R : Room A d) : A.depth < recursionLimit := by have := R.depth; (first | lia | omega)

/-- a walk's aim, put out of sight -/
theorem hideQ {α : Type} {M : Model} {A : Around} {m : Sem α} {Q : α → Shared → Prop} {E : Value → Shared → Prop} {s : Shared} (h : ∀ Q' : α → Shared → Prop, (∀ a s', Q a s' → Q' a s') → wpAny M A m Q' E s) : wpAny M A m Q E s := h Q fun _ _ x => x

/-- the ground: the text's objects and names stand in hb, and hb stands in h -/
structure Gd (K : Frag) (p : Program) (loose : List Str) (mg mb : Str → Option Value) (h : Heap) : Prop where
  x : K.In h
  t : TopRead p loose mg mb h
theorem Gd.keeps {K : Frag} {p : Program} {loose : List Str} {mg mb : Str → Option Value} {h h' : Heap} (G : Gd K p loose mg mb h) (k : Keep h h') : Gd K p loose mg mb h' := ⟨G.x.keeps k, G.t.keeps k⟩

section
variable {prog : Program} {w : World} {A : Around} {E : Value → Shared → Prop} {s : Shared} {K : Frag} {p : Program} {loose : List Str} {mg mb : Str → Option Value} {g : Heap}

/-- into a def without cells: g is what it must keep -/
theorem enter {Q : Value → Shared → Prop} {name qual : Str} {params : Arguments} {body : List Stmt} {scope : Scope} {dV kV doc pm cdv ct oc : Value} {an od : Option Addr} {osl : Array (Option Value)} {f : Addr} {args : List Value} {binds : List (Str × Value)}
    (G : Gd K p loose mg mb g) (hg : Keep g s.heap) (hsz : g.objs.size ≤ s.heap.objs.size)
    (ho : K.lookup f = some ⟨oc, od, .func (fnOf name qual params body scope dV kV doc pm an cdv ct), osl⟩) (hcd : codeIn K cdv qual = true) (hroom : A.depth < recursionLimit)
    (hbind : BindsTo s (fnOf name qual params body scope dV kV doc pm an cdv ct) ⟨args, []⟩ binds) (hloc : ∀ y ∈ binds, scope.names.lookup y.1 = some .local)
    (h : ∀ L h₁ tk, Fr g L h₁ (fun y => binds.reverse.lookup y) → Keep s.heap h₁ → s.heap.objs.size ≤ L →
      wpAny (model prog w) (A.deeper (envX qual scope L f cdv [])) (execs body (envX qual scope L f cdv []))
        (fun fl s' => Q (match fl with | .ret v => v | _ => .none) s') (fun _ _ => False) { s with heap := h₁, toks := tk })
    (hco : scope.isCoroutine = false) (hgen : scope.isGenerator = false) (hk : scope.kind = .function)
    (hcell : ∀ x ∈ scope.names, x.2 ≠ .cell) : wpAny (model prog w) A (call (.ref f) args) Q E s := by
  have X := G.x.keeps hg
  refine wpAny_call ?_
  refine codeAny_call_def (fd := fnOf name qual params body scope dV kV doc pm an cdv ct) (body := body) (binds := binds) hroom (X _ _ ho) rfl (G.t.nolimit.keeps hg) (codeRec_of X hcd) rfl hbind hcell hloc (fun h₁ hns hk₁ => ?_) hco hgen hk
  exact wpAny_mono (h s.heap.objs.size h₁ _ ⟨hns, fun b o e => hk₁ b o (hg b o e), hsz⟩ hk₁ (Nat.le_refl _)) (fun fl s' q => q) fun _ _ q => q.elim
end

theorem keep_hide {h : Heap} (l : List Addr) : Keep (hideAll h l) h := fun _ _ e => of_hideAll l e

end Mine
namespace Mine
open PySem PySem.W PySem.Calls PyProof.Rows

/-- the frame's names with one more -/
def up (m : Str → Option Value) (x : Str) (v : Value) : Str → Option Value := fun y => if y = x then some v else m y
theorem up_eq (m : Str → Option Value) (x : Str) (v : Value) : up m x v x = some v := if_pos rfl
theorem up_ne {m : Str → Option Value} {x y : Str} {v : Value} (h : y ≠ x) : up m x v y = m y := if_neg h

theorem news_move {g h h' : Heap} {L I : Addr} {news : List (Addr × Obj)} (N : News g L h news) (hI : ∀ p ∈ news, p.1 ≠ I) (hk : ∀ b o, b ≠ I → b ≠ L → h.get? b = some o → h'.get? b = some o) : News g L h' news :=
  fun p hp => ⟨hk _ _ (hI p hp) (N p hp).2.1 (N p hp).1, (N p hp).2⟩
theorem news_ne {g h : Heap} {L : Addr} {news : List (Addr × Obj)} (N : News g L h news) : ∀ p ∈ news, p.1 ≠ h.objs.size := fun p hp => Nat.ne_of_lt (Heap.lt_size (N p hp).1)
theorem news_sub {g h : Heap} {L : Addr} {news news' : List (Addr × Obj)} (N : News g L h news) (hs : ∀ p ∈ news', p ∈ news) : News g L h news' := fun p hp => N p (hs p hp)

section
variable {M : Model} {prog : Program} {w : World} {A : Around} {E : Value → Shared → Prop} {s : Shared} {K : Frag} {p : Program} {loose : List Str} {mg mb : Str → Option Value} {g : Heap} {L a : Addr} {m : Str → Option Value} {cn : Str} {cs : Scope} {ccd : Value} {cl : List (Str × Addr)} {x : Str} {v : Value} {news : List (Addr × Obj)}

theorem r_store {Q : Unit → Shared → Prop} (F : Fr g L s.heap m) (N : News g L s.heap news)
    (h : ∀ h' tk, Fr g L h' (up m x v) → News g L h' news → Keep g h' → Q () { s with heap := h', toks := tk })
    (hk : cs.kind = .function) (hx : (envX cn cs L a ccd cl).kindOf x = some .local) : wpAny M A (storeName (envX cn cs L a ccd cl) x v) Q E s :=
  storeX_L F N (fun h' F' N' => h h' _ F' N' F'.keep) hk hx

theorem r_glob {Q : Value → Shared → Prop} {pos : Pos} (G : Gd K p loose mg mb g) (F : Fr g L s.heap m) (e : nsIn K mainGlobals x = some (some v)) (h : Q v s)
    (hk : cs.kind = .function) (hx : (envX cn cs L a ccd cl).kindOf x = some .globalImplicit) (hd : (x == ("__debug__" : Str)) = false) : wpAny M A (eval (.Name x pos) (envX cn cs L a ccd cl)) Q E s :=
  nameX_K F G.x G.t e h hk hx hd
theorem r_boot {Q : Value → Shared → Prop} {pos : Pos} (G : Gd K p loose mg mb g) (F : Fr g L s.heap m) (hv : bootBuiltins x = some v) (e : nsIn K mainGlobals x = some none) (hn : x ≠ "__name__") (h : Q v s)
    (hk : cs.kind = .function) (hx : (envX cn cs L a ccd cl).kindOf x = some .globalImplicit) (hd : (x == ("__debug__" : Str)) = false) : wpAny M A (eval (.Name x pos) (envX cn cs L a ccd cl)) Q E s :=
  nameX_B F G.x G.t e hv hn h hk hx hd

/-- a def of the text's, with arguments -/
theorem r_callf {Q : Value → Shared → Prop} {env : Env} {pos : Pos} {f : Addr} {e : Expr} {rest : List Expr} (G : Gd K p loose mg mb g) (hk : keepIn K (.ref f) = true)
    (h : wpAny M A (spliced (backTo pos (starEach (e :: rest) env))) (fun vs s₁ => Keep g s₁.heap ∧ wpAny M A (call (.ref f) vs) Q E s₁) E s)
    (he : starEach (e :: rest) env = (false, eval e env) :: starEach rest env) (hplain : (backTo pos (starEach rest env)).any (·.1) = false) :
    wpAny M A (callWith pos (.ref f) [] (backTo pos (starEach (e :: rest) env)) []) Q E s :=
  callWith_K G.x hk (wpAny_mono h (fun vs s₁ q => ⟨G.x.keeps q.1, q.2⟩) fun _ _ e => e) he hplain
/-- a method of the text's, with arguments -/
theorem r_callm {Q : Value → Shared → Prop} {env : Env} {pos : Pos} {f : Addr} {first : List Value} {e : Expr} {rest : List Expr} (G : Gd K p loose mg mb g) (hk : keepIn K (.ref f) = true)
    (h : wpAny M A (spliced (backTo pos (starEach (e :: rest) env))) (fun vs s₁ => Keep g s₁.heap ∧ wpAny M A (call (.ref f) (first ++ vs)) Q E s₁) E s)
    (he : starEach (e :: rest) env = (false, eval e env) :: starEach rest env) (hplain : (backTo pos (starEach rest env)).any (·.1) = false) :
    wpAny M A (callWith pos (.ref f) first (backTo pos (starEach (e :: rest) env)) []) Q E s :=
  callWith_K G.x hk (wpAny_mono h (fun vs s₁ q => ⟨G.x.keeps q.1, q.2⟩) fun _ _ e => e) he hplain
theorem r_callm0 {Q : Value → Shared → Prop} {env : Env} {pos : Pos} {f : Addr} {first : List Value} (G : Gd K p loose mg mb g) (hg : Keep g s.heap) (hk : keepIn K (.ref f) = true)
    (h : wpAny M A (call (.ref f) (first ++ [])) Q E s) : wpAny M A (callWith pos (.ref f) first (backTo pos (starEach [] env)) []) Q E s :=
  callWith_K0 (G.x.keeps hg) hk h

/-- an item of a list of ints, counted from the front -/
theorem r_item {value slice : Expr} {l : Addr} {vs : List Value} {ns : List Int} {k : Int} {u : Tok} {Q : Value → Shared → Prop} (hl : s.heap.IsList l vs.toArray) (hi : IntsAre vs ns)
    (h0 : 0 ≤ k) (h1 : k < ns.length) (hf : k < 2 ^ 63) (h : ∀ t, Q (.int (ns.getD k.toNat 0) t) s)
    (hs : subscripted slice false (.ref l) (.int k u) = operate [.ref l, .int k u] (getItem (.ref l) (.int k u))) :
    wpAny (model prog w) A (subscriptTail value slice (.ref l) (.int k u)) Q E s := by
  have hlt : k.toNat < ns.length := by (first | lia | omega)
  obtain ⟨t, ht⟩ := hi.get k.toNat ns[k.toNat] (by simp [hlt])
  refine tail_any hl.typeIs slot_list_getitem.lookup (wpAny_getItem_list hl h0 hf (by simpa using ht) ?_) hs
  have e : ns.getD k.toNat 0 = ns[k.toNat] := by simp [hlt]
  rw [← e]; exact h t
end

section
variable {prog : Program} {w : World} {A : Around} {E : Value → Shared → Prop} {s : Shared} {K : Frag} {p : Program} {loose : List Str} {mg mb : Str → Option Value} {g : Heap}

/-- into a def with cells -/
theorem enterC {Q : Value → Shared → Prop} {name qual : Str} {params : Arguments} {body : List Stmt} {scope : Scope} {dV kV doc pm cdv ct oc : Value} {an od : Option Addr} {osl : Array (Option Value)} {f : Addr} {args : List Value} {binds : List (Str × Value)}
    (G : Gd K p loose mg mb g) (hg : Keep g s.heap) (hsz : g.objs.size ≤ s.heap.objs.size)
    (ho : K.lookup f = some ⟨oc, od, .func (fnOf name qual params body scope dV kV doc pm an cdv ct), osl⟩) (hcd : codeIn K cdv qual = true) (hroom : A.depth < recursionLimit)
    (hbind : BindsTo s (fnOf name qual params body scope dV kV doc pm an cdv ct) ⟨args, []⟩ binds)
    (hkind : (binds.all fun y => scope.names.lookup y.1 == some .local || scope.names.lookup y.1 == some .cell) = true) (hnd : ((cellsFrom 0 scope.names []).map (·.1)).Nodup)
    (h : ∀ L h₁ tk cells, Fr g L h₁ (bindL (envX qual scope L f cdv (cellsFrom (L + 1) scope.names [])).kindOf binds fun _ => none) → News g L h₁ cells →
      CellsAre (bindC (envX qual scope L f cdv (cellsFrom (L + 1) scope.names [])).kindOf binds fun _ => none) (cellsFrom (L + 1) scope.names []) cells → Keep s.heap h₁ → s.heap.objs.size ≤ L →
      wpAny (model prog w) (A.deeper (envX qual scope L f cdv (cellsFrom (L + 1) scope.names []))) (execs body (envX qual scope L f cdv (cellsFrom (L + 1) scope.names [])))
        (fun fl s' => Q (match fl with | .ret v => v | _ => .none) s') (fun _ _ => False) { s with heap := h₁, toks := tk })
    (hco : scope.isCoroutine = false) (hgen : scope.isGenerator = false) (hk : scope.kind = .function) : wpAny (model prog w) A (call (.ref f) args) Q E s := by
  have X := G.x.keeps hg
  refine wpAny_call ?_
  refine codeAny_call_function hroom (X _ _ ho) rfl hco hgen rfl (codeRec_of X hcd) (hbind _ _ _ _ ?_)
  refine wpAny_newFunctionEnv_cells hk (kindsX hkind _) fun env' he s' x => ?_
  subst he
  refine ⟨(G.t.nolimit.keeps hg).keeps x.toInCall.keep, codeAny_func ?_⟩
  obtain ⟨h₁, tk, rfl, _⟩ := x.done
  have hk₁ := x.toInCall.keep
  obtain ⟨cells, NC, Y⟩ := Cl.news (h₀ := s.heap) (Nat.le_refl _) fun n c hm => ⟨x.cell n c (lookup_of_mem_nodup (cellsFrom_names scope.names 0 (s.heap.objs.size + 1) [] [] rfl ▸ hnd) hm), x.above n c hm⟩
  refine wpAny_mono (h s.heap.objs.size h₁ tk cells ⟨x.toInCall.ns, fun b o e => hk₁ b o (hg b o e), hsz⟩ (fun q hq => ⟨(NC q hq).1, (NC q hq).2.1, ?_⟩) Y hk₁ (Nat.le_refl _)) (fun fl s' q => q) fun _ _ q => q.elim
  cases e : g.get? q.1 with
  | none => rfl
  | some o => have := hg _ _ e; rw [(NC q hq).2.2] at this; cases this
end

section
variable {M : Model} {A : Around} {E : Value → Shared → Prop} {s : Shared} {env : Env} {K : Frag} {p : Program} {loose : List Str} {mg mb : Str → Option Value} {x : Str} {v : Value} {pos : Pos} {Q : Value → Shared → Prop}
/-- names in any block -/
theorem e_local {m : Str → Option Value} (hn : s.heap.Ns env.locals m) (hv : m x = some v) (h : Q v s) (hk : env.scope.kind = .function) (hx : env.kindOf x = some .local) (hd : (x == ("__debug__" : Str)) = false) :
    wpAny M A (eval (.Name x pos) env) Q E s := wpAny_Name (wpAny_loadName_local hk hx hn hv h) hd
theorem e_cell {c : Addr} (hc : env.cells.lookup x = some c) (hv : s.heap.IsCell c (some v)) (h : Q v s) (hk : env.scope.kind = .function) (hx : env.kindOf x = some .cell) (hd : (x == ("__debug__" : Str)) = false) :
    wpAny M A (eval (.Name x pos) env) Q E s := wpAny_Name (wpAny_loadName_cell hk hx hc hv h) hd
theorem e_free {c : Addr} (hc : env.cells.lookup x = some c) (hv : s.heap.IsCell c (some v)) (h : Q v s) (hk : env.scope.kind = .function) (hx : env.kindOf x = some .free) (hd : (x == ("__debug__" : Str)) = false) (hn : (x == ("__classdict__" : Str)) = false) :
    wpAny M A (eval (.Name x pos) env) Q E s := wpAny_Name (wpAny_loadName_free hk hx hc hv h hn) hd
theorem e_glob (G : Gd K p loose mg mb s.heap) (e : nsIn K mainGlobals x = some (some v)) (h : Q v s) (hg : env.globals = mainGlobals) (hk : env.scope.kind = .function) (hx : env.kindOf x = some .globalImplicit) (hd : (x == ("__debug__" : Str)) = false) :
    wpAny M A (eval (.Name x pos) env) Q E s := Name_function_global hk hx (loadGlobal_global (env := env) (by rw [hg]; exact G.t.g) (mg_of G.x G.t.g e) h) hd
theorem e_boot (G : Gd K p loose mg mb s.heap) (hv : bootBuiltins x = some v) (e : nsIn K mainGlobals x = some none) (hn : x ≠ "__name__") (h : Q v s) (hg : env.globals = mainGlobals) (hb : env.builtins = builtinsNs) (hk : env.scope.kind = .function)
    (hx : env.kindOf x = some .globalImplicit) (hd : (x == ("__debug__" : Str)) = false) : wpAny M A (eval (.Name x pos) env) Q E s :=
  Name_function_global hk hx (loadGlobal_builtin (env := env) (by rw [hg]; exact G.t.g) (mg_none_of G.x G.t.g e) (by rw [hb]; exact G.t.b) ((G.t.builtins x hn).trans hv) h) hd
end

section
variable {prog : Program} {w : World} {A : Around} {E : Value → Shared → Prop} {s : Shared}
theorem r_len {l : Addr} {vs : List Value} {n : Nat} {Q : Value → Shared → Prop} (hl : s.heap.IsList l vs.toArray) (hi : vs.length = n) (hfit : n < 2 ^ 62) (h : ∀ t tk, Q (.int (n : Nat) t) { s with toks := tk }) :
    wpAny (model prog w) A (call (.builtin "len") [.ref l]) Q E s := by
  have e : vs.toArray.size = n := by simp [hi]
  refine Calls.call_len_list hl (by (first | lia | omega)) ?_
  rw [e]
  exact h _ _
end
end Mine
namespace Mine
open PySem PySem.W PySem.Calls PyProof.Rows

/-- what a comprehension's test or element must leave as it is -/
def Stab (C D : Addr) (fp : List Addr) (s s' : Shared) : Prop := ∀ b, (b = C ∨ b = D ∨ b ∈ fp) → ∀ o, s.heap.get? b = some o → s'.heap.get? b = some o
theorem Stab.of {C D : Addr} {fp : List Addr} {s s' : Shared} (k : Keep s.heap s'.heap) : Stab C D fp s s' := fun b _ o e => k b o e
theorem Stab.refl {C D : Addr} {fp : List Addr} (s : Shared) : Stab C D fp s s := fun _ _ _ e => e

section
variable {prog : Program} {w : World} {A : Around} {E : Value → Shared → Prop} {env : Env}

abbrev testsOf (ifs : List Expr) (env : Env) : Sem Bool := forIn ifs true fun c r => if r = true then do let ok ← isTrue c env (eval c env); pure (ForInStep.yield ok) else pure (ForInStep.yield r)

abbrev TurnC (prog : Program) (w : World) (A : Around) (env : Env) (scope : Scope) (cl : List (Str × Addr)) (x : Str) (ifs : List Expr) (elt : Expr) (fp : List Addr) (n : Nat) (P : Nat → Value → Prop) (s₂ : Shared)
    (J : Addr → Addr → Nat → List Value → Shared → Prop) : Prop :=
  ∀ C D i ys v s₃ m₃ E', s₂.heap.objs.size ≤ C → s₂.heap.objs.size ≤ D → i < n → P i v → J C D i ys s₃ → s₃.heap.Ns C m₃ → m₃ x = some v → (∃ o, s₃.heap.get? D = some o) → (∀ b ∈ fp, b < s₂.heap.objs.size) →
    wpAny (model prog w) A (testsOf ifs (compEnvC scope cl C env)) (fun ok s₄ => Stab C D fp s₃ s₄ ∧
      if ok = true then wpAny (model prog w) A (eval elt (compEnvC scope cl C env)) (fun y s₅ => Stab C D fp s₄ s₅ ∧ J C D (i + 1) (ys ++ [y]) s₅) E' s₄ else J C D (i + 1) ys s₄) E' s₃

structure CompOk (prog : Program) (w : World) (A : Around) (env : Env) (scope : Scope) (cl : List (Str × Addr)) (x : Str) (ifs : List Expr) (elt : Expr) (I : Addr) (fp wr : List Addr) (n : Nat) (P : Nat → Value → Prop) (St : Nat → Heap → Prop)
    (J : Addr → Addr → Nat → List Value → Shared → Prop) (s₂ : Shared) : Prop where
  W : Walks prog w A I fp wr n P St
  sz : n ≤ sizeLine
  st : St 0 s₂.heap
  fpl : ∀ b ∈ fp, b < s₂.heap.objs.size
  j0 : ∀ C D h' tk, C ≠ D → s₂.heap.objs.size ≤ C → s₂.heap.objs.size ≤ D → Keep s₂.heap h' → J C D 0 [] { s₂ with heap := h', toks := tk }
  js : ∀ C D i ys s h' tk, J C D i ys s → (∀ b o, b ∉ wr → b ≠ C → b ≠ D → s.heap.get? b = some o → h'.get? b = some o) → J C D i ys { s with heap := h', toks := tk }
  turn : TurnC prog w A env scope cl x ifs elt fp n P s₂ J

theorem comp_core {elt iter : Expr} {x : Str} {px : Pos} {ifs : List Expr} {scope : Scope} {cl : List (Str × Addr)} {pos : Pos} {s₂ : Shared} {I : Addr} {fp wr : List Addr} {n : Nat} {P : Nat → Value → Prop}
    {St : Nat → Heap → Prop} {J : Addr → Addr → Nat → List Value → Shared → Prop} {RR : Value → Addr → Result → Shared → Prop}
    (O : CompOk prog w A env scope cl x ifs elt I fp wr n P St J s₂)
    (hcell : ∀ y ∈ scope.names, y.2 ≠ .cell) (hkind : scope.kind = .function) (hx : scope.names.lookup x = some .local)
    (done : ∀ C D ys s' m', C ≠ D → s₂.heap.objs.size ≤ C → s₂.heap.objs.size ≤ D → J C D n ys s' → ys.length ≤ n → s'.heap.Ns C m' → s'.heap.PlainList D ys.toArray → RR (.ref D) C (.ok .next) s') :
    wpAny (model prog w) A (newList []) (fun acc s₃ => wpAny (model prog w) A (newFunctionEnv scope env.globals cl [] env.qual none .none (some env)) (fun cenv s₄ =>
      codeAny (model prog w) A (.compStart (.ListComp elt [⟨.Name x px, iter, ifs, 0⟩] scope pos) 0 (.ref I) acc { cenv with scope := relabel scope env }) (RR acc cenv.locals) s₄) E s₃) E s₂ := by
  obtain ⟨W, hsz, hst, hfp, j0, js, turn⟩ := O
  refine wpAny_newObj_type (wpAny_newFunctionEnv hcell (by intro y hy; simp at hy) (fun h₁ hns₁ hsb₁ => ?_) hkind)
  dsimp only at hns₁ hsb₁ ⊢
  generalize hH2 : s₂.heap.push { cls := .type "list", dict := none, data := .seq ([] : List Value).toArray } = H2 at hns₁ hsb₁ ⊢
  have hC : H2.objs.size = s₂.heap.objs.size + 1 := by rw [← hH2, Heap.size_push]
  obtain ⟨C, hCe⟩ : ∃ C : Nat, C = H2.objs.size := ⟨_, rfl⟩
  obtain ⟨D, hDe⟩ : ∃ D : Nat, D = s₂.heap.objs.size := ⟨_, rfl⟩
  rw [← hCe] at hns₁ hsb₁ hC ⊢
  rw [← hDe] at hC ⊢
  have hDC : D ≠ C := by (first | lia | omega)
  have hfp' : ∀ b ∈ fp, @LT.lt Nat _ b D := fun b hb => by rw [hDe]; exact hfp b hb
  have hDf : D ∉ fp := fun hm => Nat.lt_irrefl _ (hfp' _ hm)
  have hCf : C ∉ fp := fun hm => by have := hfp' _ hm; (first | lia | omega)
  have lts : ∀ b o, s₂.heap.get? b = some o → @LT.lt Nat _ b D := fun b o e => by rw [hDe]; exact Heap.lt_size e
  have old : ∀ b o, s₂.heap.get? b = some o → h₁.get? b = some o := fun b o e => hsb₁.extBut b o (Nat.ne_of_lt (by have := lts b o e; (first | lia | omega))) (Heap.get?_push_of_some _ (hH2 ▸ Heap.get?_push_of_some _ e))
  have hacc : h₁.PlainList D #[] := ⟨_, hsb₁.extBut _ _ hDC (Heap.get?_push_of_some _ (by rw [← hH2, hDe]; exact Heap.get?_push_size _ rfl))⟩
  have hst₁ : St 0 h₁ := W.frame _ _ _ hst fun b _ o e => old b o e
  have hCw : C ∉ wr := fun h => hCf (W.sub _ h)
  have hDw : D ∉ wr := fun h => hDf (W.sub _ h)
  have hkx : (compEnvC scope cl C env).kindOf x = some .local := lookup_relabel_local hx
  have hp : ((compEnvC scope cl C env).scope.kind == .class || ((compEnvC scope cl C env).scope.kind == .module && (compEnvC scope cl C env).locals != (compEnvC scope cl C env).globals)) = false := by simp [compEnvC, relabel, hkind]
  have loop : ∀ s₃ : Shared, s₃ = { s₂ with heap := h₁, toks := s₂.toks + ([] : List (Str × Value)).length } →
      codeAny (model prog w) A (.compLoop (.ListComp elt [⟨.Name x px, iter, ifs, 0⟩] scope pos) 0 (.ref I) (.ref D) (compEnvC scope cl C env)) (RR (.ref D) C) s₃ := by
    rintro s₃ rfl
    refine codeAny_compLoop_tests (fun k s' => ∃ i ys m', St i s'.heap ∧ s'.heap.PlainList D ys.toArray ∧ s'.heap.Ns C m' ∧ J C D i ys s' ∧ ys.length ≤ i ∧ i ≤ n ∧ k = n + 1 - i) ?_ (n + 1)
      ⟨0, [], _, hst₁, hacc, hns₁, j0 C D h₁ _ (Ne.symm hDC) (by (first | lia | omega)) (by (first | lia | omega)) old, Nat.le_refl _, Nat.zero_le _, rfl⟩
    rintro k s' ⟨i, ys, m', hst', hacc', hn', hj, hlen, hi, rfl⟩
    by_cases hlt : i < n
    · refine W.item i _ _ _ hlt hst' fun v h₁ tk₁ hPv hst₁ hk₁ => ?_
      refine wpAny_assign_Name (wpAny_storeName_local hkx (hn'.at' fun o e => hk₁ _ o hCw e) (fun h₂ hn₂ hs₂ => ?_) hp)
      have up₂ : ∀ b o, b ≠ C → b ∉ wr → s'.heap.get? b = some o → h₂.get? b = some o := fun b o hbC hbf e => hs₂.extBut b o hbC (hk₁ b o hbf e)
      have hst₂ : St (i + 1) h₂ := W.frame _ _ _ hst₁ fun b hb o e => hs₂.extBut b o (fun (h : b = C) => hCf (h ▸ hb)) e
      have hacc₂ : h₂.PlainList D ys.toArray := hacc'.at fun o e => up₂ D o hDC hDw e
      have hj₂ := js C D i ys s' h₂ (tk₁ + 1) hj fun b o hb hbC _ e => up₂ b o hbC hb e
      refine wpAny_mono (turn C D i ys v _ _ _ (by (first | lia | omega)) (by (first | lia | omega)) hlt hPv hj₂ hn₂ (by simp) (by obtain ⟨q, e⟩ := hacc₂; exact ⟨_, e⟩) hfp) (fun ok s₄ h₄ => ?_) fun _ _ e => e
      obtain ⟨hsb₄, h₄⟩ := h₄
      have hst₄ : St (i + 1) s₄.heap := W.frame _ _ _ hst₂ fun b hb o e => hsb₄ b (.inr (.inr hb)) o e
      have hacc₄ : s₄.heap.PlainList D ys.toArray := hacc₂.at fun o e => hsb₄ D (.inr (.inl rfl)) o e
      have hn₄ : ∃ m, s₄.heap.Ns C m := ⟨_, hn₂.at' fun o e => hsb₄ C (.inl rfl) o e⟩
      cases ok with
      | false =>
        simp only [Bool.false_eq_true, if_false] at h₄ ⊢
        obtain ⟨m₄, hn₄⟩ := hn₄
        exact ⟨n + 1 - (i + 1), by (first | lia | omega), i + 1, ys, m₄, hst₄, hacc₄, hn₄, h₄, by (first | lia | omega), hlt, rfl⟩
      | true =>
        simp only [if_true] at h₄ ⊢
        refine wpAny_mono h₄ (fun y s₅ h₅ => ?_) fun _ _ e => e
        obtain ⟨hsb₅, hj₅⟩ := h₅
        have hst₅ : St (i + 1) s₅.heap := W.frame _ _ _ hst₄ fun b hb o e => hsb₅ b (.inr (.inr hb)) o e
        have hacc₅ : s₅.heap.PlainList D ys.toArray := hacc₄.at fun o e => hsb₅ D (.inr (.inl rfl)) o e
        obtain ⟨m₄, hn₄⟩ := hn₄
        have hn₅ := hn₄.at' fun o e => hsb₅ C (.inl rfl) o e
        refine wpAny_list_append_plain (hsz := by simp only [List.size_toArray]; (first | lia | omega)) hacc₅ fun h₆ hl₆ hs₆ => ?_
        refine ⟨n + 1 - (i + 1), by (first | lia | omega), i + 1, ys ++ [y], m₄, W.frame _ _ _ hst₅ fun b hb o e => hs₆.extBut b o (fun (h : b = D) => hDf (h ▸ hb)) e, by simpa using hl₆, hn₅.sameBut hs₆ (Ne.symm hDC), ?_, by simp; (first | lia | omega), hlt, rfl⟩
        exact js C D (i + 1) (ys ++ [y]) s₅ h₆ s₅.toks hj₅ fun b o _ _ hbD e => hs₆.extBut b o hbD e
    · have hin : i = n := by (first | lia | omega)
      subst hin
      refine W.done _ _ _ hst' fun h₁ tk₁ hk₁ => ?_
      exact done C D ys _ m' (Ne.symm hDC) (by (first | lia | omega)) (by (first | lia | omega)) (js C D i ys s' h₁ tk₁ hj fun b o hb _ _ e => hk₁ b o hb e) hlen (hn'.at' fun o e => hk₁ _ o hCw e) (hacc'.at fun o e => hk₁ _ o hDw e)
  exact codeAny_compStart_list (loop _ rfl) (W.self 0 _ _ _ hst₁ (loop _ rfl))

/-- the comprehension's source is walked -/
def CompIn (prog : Program) (w : World) (A : Around) (env : Env) (scope : Scope) (cl : List (Str × Addr)) (x : Str) (ifs : List Expr) (elt : Expr) (Fin : Addr → Addr → List Value → Shared → Shared → Prop) (it : Value) (s₂ : Shared) : Prop :=
  ∃ I fp wr n P St J, it = .ref I ∧ CompOk prog w A env scope cl x ifs elt I fp wr n P St J s₂ ∧
    ∀ C D ys s', C ≠ D → s₂.heap.objs.size ≤ C → s₂.heap.objs.size ≤ D → J C D n ys s' → ys.length ≤ n → s'.heap.PlainList D ys.toArray → Fin C D ys s₂ s'

theorem none_of_ge {h : Heap} {a : Addr} (k : h.objs.size ≤ a) : h.get? a = none := by
  cases e : h.get? a with
  | none => rfl
  | some o' => exact absurd (Heap.lt_size e) (Nat.not_lt.mpr k)

theorem comp_expr {s : Shared} {elt iter : Expr} {x : Str} {px : Pos} {ifs : List Expr} {scope : Scope} {cl : List (Str × Addr)} {pos : Pos} {Q : Value → Shared → Prop}
    (hclos : closureFor scope env = pure cl) (hcell : ∀ y ∈ scope.names, y.2 ≠ .cell) (hkind : scope.kind = .function)
    (hnames : ∀ y ∈ scope.names, y.2 = .local → scope.names.lookup y.1 = some .local) (hx : scope.names.lookup x = some .local)
    (h : wpAny (model prog w) A (eval iter env) (fun xv s₁ => wpAny (model prog w) A (pyIter xv) (fun it s₂ => CompIn prog w A env scope cl x ifs elt (fun _ D _ _ s' => Q (.ref D) s') it s₂) E s₁) E s)
    (hs : ∀ x, foldedSetIterable iter env x = pure x) :
    wpAny (model prog w) A (eval (.ListComp elt [⟨.Name x px, iter, ifs, 0⟩] scope pos) env) Q E s := by
  rw [eval_ListComp]
  refine wpAny_comprehension_free (use := none) rfl hs hclos hkind hnames (wpAny_mono h (fun xv s₁ h₁ => wpAny_mono h₁ (fun it s₂ h₂ => ?_) fun _ _ e => e) fun _ _ e => e)
  obtain ⟨I, fp, wr, n, P, St, J, rfl, O, hQ⟩ := h₂
  refine comp_core (RR := fun acc C => compPost (model prog w) A E none Q acc C) O hcell hkind hx ?_
  intro C D ys s' m' hCD hC hD hj hlen hn hl
  refine ⟨m', hn, fun h' hs' => hQ C D ys _ hCD hC hD (O.js C D n ys s' h' s'.toks hj fun b o _ hbC _ e => hs'.extBut b o hbC e) hlen (hl.extBut hs'.extBut (Ne.symm hCD))⟩

theorem comp_assign {s : Shared} {elt iter : Expr} {x y : Str} {px py : Pos} {ifs : List Expr} {scope : Scope} {cl : List (Str × Addr)} {pos spos : Pos} {Q : Flow → Shared → Prop} {g : Heap}
    (hsw : swapsWith (.ListComp elt [⟨.Name x px, iter, ifs, 0⟩] scope pos) (some (.Name y py)) spos.line env = pure true)
    (hclos : closureFor scope env = pure cl) (hcell : ∀ z ∈ scope.names, z.2 ≠ .cell) (hkind : scope.kind = .function)
    (hnames : ∀ z ∈ scope.names, z.2 = .local → scope.names.lookup z.1 = some .local) (hx : scope.names.lookup x = some .local)
    (hy : env.kindOf y = some .local) (hp : (env.scope.kind == .class || (env.scope.kind == .module && env.locals != env.globals)) = false)
    (h : wpAny (model prog w) A (eval iter env) (fun xv s₁ => wpAny (model prog w) A (pyIter xv) (fun it s₂ => CompIn prog w A env scope cl x ifs elt (fun C D ys s₂ s' =>
      ∃ m, Fr g env.locals s'.heap m ∧ Keep g s₂.heap ∧ (∃ oL, s₂.heap.get? env.locals = some oL) ∧ ∀ h' tk, Fr g env.locals h' (up m y (.ref D)) → h'.PlainList D ys.toArray →
        (∀ b o, b ≠ env.locals → b ≠ C → s'.heap.get? b = some o → h'.get? b = some o) → Q .next { s' with heap := h', toks := tk }) it s₂) E s₁) E s)
    (hs : ∀ x, foldedSetIterable iter env x = pure x) :
    wpAny (model prog w) A (exec (.Assign [.Name y py] (.ListComp elt [⟨.Name x px, iter, ifs, 0⟩] scope pos) spos) env) Q E s := by
  rw [exec_Assign_Name_used _ _ _ _ hsw]
  refine wpAny_bind (wpAny_standAt (wpAny_bind ?_))
  show wpAny _ A (do let _ ← comprehension (.ListComp elt [⟨.Name x px, iter, ifs, 0⟩] scope pos) scope env _ (newList []) false (eval iter env) (some (assign (.Name y py) env))) _ _ s
  refine wpAny_bind (wpAny_mono (wpAny_comprehension_free (use := some (assign (.Name y py) env)) (Q := fun _ s' => Q .next s') rfl hs hclos hkind hnames
    (wpAny_mono h (fun xv s₁ h₁ => wpAny_mono h₁ (fun it s₂ h₂ => ?_) fun _ _ e => e) fun _ _ e => e)) (fun _ s' hq => wpAny_pure (wpAny_pure hq)) fun _ _ e => e)
  obtain ⟨I, fp, wr, n, P, St, J, rfl, O, hQ⟩ := h₂
  refine comp_core (RR := fun acc C => compPost (model prog w) A E (some (assign (.Name y py) env)) (fun _ s' => Q .next s') acc C) O hcell hkind hx ?_
  intro C D ys s' m' hCD hC hD hj hlen hn hl
  obtain ⟨m, F, hg, ⟨oL, hoL⟩, hQ⟩ := hQ C D ys s' hCD hC hD hj hlen hl
  replace hC := none_of_ge hC
  replace hD := none_of_ge hD
  have hLC : env.locals ≠ C := by rintro rfl; rw [hC] at hoL; cases hoL
  have hLD : env.locals ≠ D := by rintro rfl; rw [hD] at hoL; cases hoL
  have hgC : ∀ b o, g.get? b = some o → b ≠ C := fun b o e q => by have := hg b o e; rw [q, hC] at this; cases this
  show wpAny _ A (assign (.Name y py) env (.ref D)) _ _ _
  refine wpAny_assign_Name (wpAny_storeName_local hy F.ns (fun h₂ hn₂ hs₂ => ?_) hp)
  have F₂ : Fr g env.locals h₂ (up m y (.ref D)) := F.set hn₂ hs₂
  refine ⟨m', hn.sameBut hs₂ (Ne.symm hLC), fun h₃ hs₃ => ?_⟩
  refine hQ h₃ _ ⟨F₂.ns.sameBut hs₃ hLC, fun b o e => hs₃.extBut b o (hgC b o e) (F₂.keep b o e), F₂.above⟩ ((hl.extBut hs₂.extBut (Ne.symm hLD)).extBut hs₃.extBut (Ne.symm hCD)) fun b o hbL hbC e => hs₃.extBut b o hbC (hs₂.extBut b o hbL e)

end
end Mine
namespace Mine
open PySem PySem.W PySem.Calls PyProof.Rows

/-- a list of ints; a list of such -/
def IsI (h : Heap) (v : Value) (c : List Int) : Prop := ∃ b its, v = .ref b ∧ h.IsList b its.toArray ∧ IntsAre its c
def IsLL (h : Heap) (a : Addr) (css : List (List Int)) : Prop := ∃ vs, h.IsList a vs.toArray ∧ Paired (IsI h) vs css
theorem IsI.keep {h h' : Heap} {v : Value} {c : List Int} (x : IsI h v c) (k : Keep h h') : IsI h' v c := let ⟨b, its, e, hl, hi⟩ := x; ⟨b, its, e, stays_list k hl, hi⟩
theorem IsLL.keep {h h' : Heap} {a : Addr} {css : List (List Int)} (x : IsLL h a css) (k : Keep h h') : IsLL h' a css := let ⟨vs, hl, hp⟩ := x; ⟨vs, stays_list k hl, hp.mono fun _ _ q => q.keep k⟩
theorem list_lt {h : Heap} {a : Addr} {its : Array Value} (x : h.IsList a its) : a < h.objs.size := let ⟨_, e, _⟩ := x; Heap.lt_size e

theorem paired_at {α β : Type} {R : α → β → Prop} : ∀ {l : List α} {l' : List β}, Paired R l l' → ∀ {i : Nat} {a : α}, l[i]? = some a → ∃ b, l'[i]? = some b ∧ R a b
  | _, _, .nil, i, a, h => by simp at h
  | _, _, .cons r t, 0, a, h => by simp at h; subst h; exact ⟨_, rfl, r⟩
  | _, _, .cons r t, i + 1, a, h => by simp at h; obtain ⟨b, hb, hr⟩ := paired_at t h; exact ⟨b, by simpa using hb, hr⟩
theorem paired_len {α β : Type} {R : α → β → Prop} {l : List α} {l' : List β} (h : Paired R l l') : l.length = l'.length := h.length

section
variable {prog : Program} {w : World} {A : Around} {E : Value → Shared → Prop} {env : Env}

def IterAt (prog : Program) (w : World) (A : Around) (n : Nat) (P : Nat → Value → Prop) (s : Shared) (it : Value) (s₂ : Shared) : Prop :=
  ∃ fp St, it = .ref s.heap.objs.size ∧ Walks prog w A s.heap.objs.size fp [s.heap.objs.size] n P St ∧ St 0 s₂.heap ∧ (∀ b ∈ fp, b < s₂.heap.objs.size) ∧ s₂.heap.objs.size = s.heap.objs.size + 1 ∧ Same s s₂ ∧ Keep s.heap s₂.heap

theorem src_list {s : Shared} {l : Addr} {items : Array Value} (hh : A.handled = none) (hl : s.heap.IsList l items) :
    wpAny (model prog w) A (pyIter (.ref l)) (fun it s₂ => IterAt prog w A items.size (fun i v => items[i]? = some v) s it s₂) E s := by
  have hlt := list_lt hl
  refine wpAny_pyIter_list hl ?_
  refine ⟨[s.heap.objs.size, l], _, rfl, Walks.list hh s.heap.objs.size l (Nat.ne_of_lt hlt) items, ⟨⟨_, Heap.get?_push_size _ rfl, rfl, rfl⟩, hl.at fun o e => Heap.get?_push_of_some _ e⟩, ?_, Heap.size_push .., ⟨rfl, rfl, rfl⟩, fun b o e => Heap.get?_push_of_some _ e⟩
  intro b hb
  rw [Heap.size_push]
  rcases List.mem_cons.mp hb with q | q
  · rw [q]; exact Nat.lt_succ_self _
  · rw [List.mem_singleton.mp q]; exact Nat.lt_succ_of_lt hlt

theorem src_range {s : Shared} {r : Addr} {a₀ b₀ : Int} {t₀ u₀ v₀ : Tok} {n : Nat} (hh : A.handled = none) (hr : IsRange s.heap r a₀ b₀ 1 t₀ u₀ v₀) (hsmall : Builtin.Range.small a₀ b₀ 1 = true) (hn : Builtin.Range.rangeSize a₀ b₀ 1 = (n : Int)) :
    wpAny (model prog w) A (pyIter (.ref r)) (fun it s₂ => IterAt prog w A n (fun i v => ∃ t, v = .int (a₀ + (i : Nat)) t) s it s₂) E s := by
  refine wpAny_pyIter_range hr hsmall ?_
  have W := Walks.range (prog := prog) (w := w) hh s.heap.objs.size a₀ 1 n
  simp only [Int.mul_one] at W
  refine ⟨[s.heap.objs.size], _, rfl, W, (by show IsRangeIter _ _ _ _ _; rw [hn]; simpa using Heap.get?_push_size _ rfl), ?_, Heap.size_push .., ⟨rfl, rfl, rfl⟩, fun b o e => Heap.get?_push_of_some _ e⟩
  intro b hb
  rw [Heap.size_push, List.mem_singleton.mp hb]; exact Nat.lt_succ_self _

section
variable {s s₂ : Shared} {it : Value} {n : Nat} {P : Nat → Value → Prop} {elt : Expr} {x : Str} {ifs : List Expr} {scope : Scope} {cl : List (Str × Addr)} {Fin : Addr → Addr → List Value → Shared → Shared → Prop}

/-- a comprehension that turns nothing that stood; Jp speaks of the values alone -/
theorem compIn_v (H : IterAt prog w A n P s it s₂) (hsz : n ≤ sizeLine) (Jp : Nat → List Value → Prop) (j0 : Jp 0 [])
    (turn : ∀ C i ys v s₃ m₃ E', i < n → P i v → Jp i ys → Same s s₃ → Keep s.heap s₃.heap → s₃.heap.Ns C m₃ → m₃ x = some v →
      wpAny (model prog w) A (testsOf ifs (compEnvC scope cl C env)) (fun ok s₄ => Same s₃ s₄ ∧ Keep s₃.heap s₄.heap ∧
        if ok = true then wpAny (model prog w) A (eval elt (compEnvC scope cl C env)) (fun y s₅ => Same s₄ s₅ ∧ Keep s₄.heap s₅.heap ∧ Jp (i + 1) (ys ++ [y])) E' s₄ else Jp (i + 1) ys) E' s₃)
    (done : ∀ C D ys s', C ≠ D → s.heap.objs.size < C → s.heap.objs.size < D → Jp n ys → Same s s' → Keep s.heap s'.heap → s'.heap.PlainList D ys.toArray → Fin C D ys s₂ s') :
    CompIn prog w A env scope cl x ifs elt Fin it s₂ := by
  obtain ⟨fp, St, rfl, W, hst, hfp, hsz2, sm, kp⟩ := H
  refine ⟨_, fp, _, n, P, St, fun C D i ys s' => s.heap.objs.size < C ∧ s.heap.objs.size < D ∧ Same s s' ∧ Keep s.heap s'.heap ∧ Jp i ys, rfl, ⟨W, hsz, hst, hfp, ?_, ?_, ?_⟩, ?_⟩
  · intro C D h' tk hCD hC hD hk
    exact ⟨by (first | lia | omega), by (first | lia | omega), sm.set _ _, fun b o e => hk b o (kp b o e), j0⟩
  · rintro C D i ys s₁ h' tk ⟨hC, hD, a, b, c⟩ hk
    refine ⟨hC, hD, a.set _ _, fun d o e => hk d o (fun q => ?_) (fun q => ?_) (fun q => ?_) (b d o e), c⟩
    · have := Heap.lt_size e; rw [List.mem_singleton.mp q] at this; exact Nat.lt_irrefl _ this
    · have h1 := Heap.lt_size e; rw [q] at h1; exact Nat.lt_irrefl _ (Nat.lt_trans h1 hC)
    · have h1 := Heap.lt_size e; rw [q] at h1; exact Nat.lt_irrefl _ (Nat.lt_trans h1 hD)
  · rintro C D i ys v s₃ m₃ E' _ _ hi hP ⟨hC, hD, a, b, c⟩ hn hm _ _
    refine wpAny_mono (turn C i ys v s₃ m₃ E' hi hP c a b hn hm) (fun ok s₄ h₄ => ?_) fun _ _ e => e
    obtain ⟨sm₄, k₄, h₄⟩ := h₄
    refine ⟨Stab.of k₄, ?_⟩
    cases ok with
    | false => simp only [Bool.false_eq_true, if_false] at h₄ ⊢; exact ⟨hC, hD, a.trans sm₄, fun d o e => k₄ d o (b d o e), h₄⟩
    | true =>
      simp only [if_true] at h₄ ⊢
      exact wpAny_mono h₄ (fun y s₅ h₅ => ⟨Stab.of h₅.2.1, hC, hD, (a.trans sm₄).trans h₅.1, fun d o e => h₅.2.1 d o (k₄ d o (b d o e)), h₅.2.2⟩) fun _ _ e => e
  · rintro C D ys s' hCD _ _ ⟨hC, hD, a, b, c⟩ _ hp
    exact done C D ys s' hCD hC hD c a b hp

/-- a comprehension whose elements are new lists of ints -/
theorem compIn_o (H : IterAt prog w A n P s it s₂) (hsz : n ≤ sizeLine) (Jp : Nat → List (List Int) → Prop) (j0 : Jp 0 [])
    (turn : ∀ C i v s₃ m₃ E', i < n → P i v → Same s s₃ → Keep s.heap s₃.heap → s₃.heap.Ns C m₃ → m₃ x = some v →
      wpAny (model prog w) A (testsOf ifs (compEnvC scope cl C env)) (fun ok s₄ => Same s₃ s₄ ∧ Keep s₃.heap s₄.heap ∧ ok = true ∧
        wpAny (model prog w) A (eval elt (compEnvC scope cl C env)) (fun y s₅ => Same s₄ s₅ ∧ Keep s₄.heap s₅.heap ∧ ∃ T its c, y = .ref T ∧ s₄.heap.objs.size ≤ T ∧ s₅.heap.IsList T its.toArray ∧ IntsAre its c ∧ ∀ css, Jp i css → Jp (i + 1) (css ++ [c])) E' s₄) E' s₃)
    (done : ∀ C D ys css s', C ≠ D → s.heap.objs.size < C → s.heap.objs.size < D → Jp n css → Paired (IsI s'.heap) ys css → (∀ y ∈ ys, y ≠ .ref C) → Same s s' → Keep s.heap s'.heap → s'.heap.PlainList D ys.toArray → Fin C D ys s₂ s') :
    CompIn prog w A env scope cl x ifs elt Fin it s₂ := by
  obtain ⟨fp, St, rfl, W, hst, hfp, hsz2, sm, kp⟩ := H
  let NewI : Addr → Addr → Heap → Value → List Int → Prop := fun C D h y c => ∃ T its, y = .ref T ∧ h.IsList T its.toArray ∧ IntsAre its c ∧ T ≠ s.heap.objs.size ∧ T ≠ C ∧ T ≠ D
  refine ⟨_, fp, _, n, P, St, fun C D i ys s' => s.heap.objs.size < C ∧ s.heap.objs.size < D ∧ Same s s' ∧ Keep s.heap s'.heap ∧ ∃ css, Jp i css ∧ Paired (NewI C D s'.heap) ys css, rfl, ⟨W, hsz, hst, hfp, ?_, ?_, ?_⟩, ?_⟩
  · intro C D h' tk hCD hC hD hk
    exact ⟨by (first | lia | omega), by (first | lia | omega), sm.set _ _, fun b o e => hk b o (kp b o e), [], j0, .nil⟩
  · rintro C D i ys s₁ h' tk ⟨hC, hD, a, b, css, c, hp⟩ hk
    refine ⟨hC, hD, a.set _ _, fun d o e => hk d o (fun q => ?_) (fun q => ?_) (fun q => ?_) (b d o e), css, c, hp.mono fun y c' hy => ?_⟩
    · have := Heap.lt_size e; rw [List.mem_singleton.mp q] at this; exact Nat.lt_irrefl _ this
    · have h1 := Heap.lt_size e; rw [q] at h1; exact Nat.lt_irrefl _ (Nat.lt_trans h1 hC)
    · have h1 := Heap.lt_size e; rw [q] at h1; exact Nat.lt_irrefl _ (Nat.lt_trans h1 hD)
    · obtain ⟨T, its, e, hl, hi, n1, n2, n3⟩ := hy
      exact ⟨T, its, e, hl.at fun o e => hk T o (fun q => n1 (List.mem_singleton.mp q)) n2 n3 e, hi, n1, n2, n3⟩
  · rintro C D i ys v s₃ m₃ E' _ _ hi hP ⟨hC, hD, a, b, css, c, hp⟩ hn hm ⟨oD, hoD⟩ _
    obtain ⟨oC, _, _, hoC, _⟩ := id hn
    refine wpAny_mono (turn C i v s₃ m₃ E' hi hP a b hn hm) (fun ok s₄ h₄ => ?_) fun _ _ e => e
    obtain ⟨sm₄, k₄, rfl, h₄⟩ := h₄
    refine ⟨Stab.of k₄, ?_⟩
    simp only [if_true]
    refine wpAny_mono h₄ (fun y s₅ h₅ => ?_) fun _ _ e => e
    obtain ⟨sm₅, k₅, T, its, c', rfl, hT, hl, hi', hjp⟩ := h₅
    have ltC := Heap.lt_size (k₄ _ _ hoC)
    have ltD := Heap.lt_size (k₄ _ _ hoD)
    refine ⟨Stab.of k₅, hC, hD, (a.trans sm₄).trans sm₅, fun d o e => k₅ d o (k₄ d o (b d o e)), css ++ [c'], hjp css c, Paired.snoc (hp.mono fun y c' hy => ?_) ⟨T, its, rfl, hl, hi', ?_, ?_, ?_⟩⟩
    · obtain ⟨T, its, e, hl, hi, n1, n2, n3⟩ := hy
      exact ⟨T, its, e, stays_list k₅ (stays_list k₄ hl), hi, n1, n2, n3⟩
    · exact Nat.ne_of_gt (Nat.lt_of_lt_of_le (Nat.lt_trans hD ltD) hT)
    · exact Nat.ne_of_gt (Nat.lt_of_lt_of_le ltC hT)
    · exact Nat.ne_of_gt (Nat.lt_of_lt_of_le ltD hT)
  · rintro C D ys s' hCD _ _ ⟨hC, hD, a, b, css, c, hp⟩ _ hpl
    refine done C D ys css s' hCD hC hD c (hp.mono fun y c' hy => ?_) (fun y hy q => ?_) a b hpl
    · obtain ⟨T, its, e, hl, hi, _⟩ := hy
      exact ⟨T, its, e, hl, hi⟩
    · obtain ⟨j, hj, rfl⟩ := List.getElem_of_mem hy
      obtain ⟨c', _, T, its, e, _, _, _, n2, _⟩ := paired_at hp (List.getElem?_eq_getElem hj)
      rw [q] at e; cases e; exact n2 rfl
end

theorem tests_nil {C : Env} {A : Around} {s : Shared} {Q : Bool → Shared → Prop} (h : Q true s) : wpAny (model prog w) A (testsOf [] C) Q E s := wpAny_pure h
theorem tests_one {C : Env} {c : Expr} {s : Shared} {Q : Bool → Shared → Prop} (h : wpAny (model prog w) A (isTrue c C (eval c C)) Q E s) : wpAny (model prog w) A (testsOf [c] C) Q E s := by
  unfold testsOf
  rw [List.forIn_cons]
  simp only [if_true]
  refine wpAny_bind (wpAny_bind (wpAny_mono h (fun b s' hb => wpAny_pure ?_) fun _ _ e => e))
  exact wpAny_pure hb
end
end Mine
namespace Mine
open PySem PySem.W PySem.Calls PyProof.Rows

theorem list_ne_ns {h : Heap} {T L : Addr} {its : Array Value} {m : Str → Option Value} (hl : h.IsList T its) (hn : h.Ns L m) : T ≠ L := by
  rintro rfl
  obtain ⟨o, ho, _, n, hd⟩ := hl
  obtain ⟨o', es, ep, ho', hd', _⟩ := hn
  rw [ho] at ho'; cases ho'
  rw [hd] at hd'; cases hd'

section
variable {g : Heap} {L C D : Addr} {m : Str → Option Value} {news : List (Addr × Obj)} {s s₂ s' : Shared} {ys : List Value} {y : Str} {Z : Heap → Nat → Prop}

theorem news_new {h' : Heap} {q : Nat} (F : Fr g L s.heap m) (N : News g L s.heap news) (kp : Keep s.heap s'.heap) (hD : s.heap.objs.size < D) (hC : s.heap.objs.size < C)
    (hk : ∀ b o, b ≠ L → b ≠ C → s'.heap.get? b = some o → h'.get? b = some o) (e : h'.get? D = some (listOf ys.toArray q)) : News g L h' ((D, listOf ys.toArray q) :: news) := by
  intro p hp
  rcases List.mem_cons.mp hp with rfl | hp
  · refine ⟨e, fun z => ?_, ?_⟩
    · have := F.ns.lt; rw [← show D = L from z] at this; exact Nat.lt_irrefl _ (Nat.lt_trans this hD)
    · cases e' : g.get? D with
      | none => rfl
      | some o => exact absurd (Heap.lt_size (F.keep _ _ e')) (Nat.not_lt.mpr (Nat.le_of_lt hD))
  · refine ⟨hk _ _ (N p hp).2.1 (fun z => ?_) (kp _ _ (N p hp).1), (N p hp).2⟩
    have := Heap.lt_size (N p hp).1
    rw [z] at this; exact Nat.lt_irrefl _ (Nat.lt_trans this hC)

/-- a comprehension's list goes into the frame and onto the ledger -/
theorem fin_assign (F : Fr g L s.heap m) (N : News g L s.heap news) (k₂ : Keep s.heap s₂.heap) (kp : Keep s.heap s'.heap) (hC : s.heap.objs.size < C) (hD : s.heap.objs.size < D)
    (k : ∀ h' tk q, Fr g L h' (up m y (.ref D)) → News g L h' ((D, listOf ys.toArray q) :: news) → (∀ b o, b ≠ L → b ≠ C → s'.heap.get? b = some o → h'.get? b = some o) → Z h' tk) :
    ∃ m, Fr g L s'.heap m ∧ Keep g s₂.heap ∧ (∃ oL, s₂.heap.get? L = some oL) ∧ ∀ h' tk, Fr g L h' (up m y (.ref D)) → h'.PlainList D ys.toArray →
        (∀ b o, b ≠ L → b ≠ C → s'.heap.get? b = some o → h'.get? b = some o) → Z h' tk := by
  obtain ⟨oL, _, _, hoL, _⟩ := id F.ns
  refine ⟨m, F.keeps kp, fun b o e => k₂ b o (F.keep b o e), ⟨oL, k₂ _ _ hoL⟩, fun h' tk F' hp hk => ?_⟩
  obtain ⟨q, e⟩ := hp
  exact k h' tk q F' (news_new F N kp hD hC hk e) hk

end
end Mine
namespace Mine
open PySem PySem.W PySem.Calls PyProof.Rows

section
variable {prog : Program} {w : World} {A : Around} {E : Value → Shared → Prop} {s : Shared} {g : Heap} {L : Addr} {m : Str → Option Value} {news news' : List (Addr × Obj)}

theorem r_range1 {n : Int} {t : Tok} {Q : Value → Shared → Prop} (F : Fr g L s.heap m) (N : News g L s.heap news)
    (h : ∀ r h' tk t₀ u₀ v₀, Fr g L h' m → News g L h' news → IsRange h' r 0 n 1 t₀ u₀ v₀ → Keep s.heap h' → Q (.ref r) { s with heap := h', toks := tk }) :
    wpAny (model prog w) A (call (.type "range") [.int n t]) Q E s :=
  call_range_1 (h _ _ _ _ _ _ (F.push _) (N.grown fun b o e => Heap.get?_push_of_some _ e) (IsRange.new ..) fun b o e => Heap.get?_push_of_some _ e)
theorem r_range2 {a b : Int} {t u : Tok} {Q : Value → Shared → Prop} (F : Fr g L s.heap m) (N : News g L s.heap news)
    (h : ∀ r h' tk t₀ u₀ v₀, Fr g L h' m → News g L h' news → IsRange h' r a b 1 t₀ u₀ v₀ → Keep s.heap h' → Q (.ref r) { s with heap := h', toks := tk }) :
    wpAny (model prog w) A (call (.type "range") [.int a t, .int b u]) Q E s :=
  call_range_2 (h _ _ _ _ _ _ (F.push _) (N.grown fun b o e => Heap.get?_push_of_some _ e) (IsRange.new ..) fun b o e => Heap.get?_push_of_some _ e)
theorem range_size {a b : Int} {n : Nat} (h : b - a = n) : Builtin.Range.rangeSize a b 1 = (n : Int) := by
  rw [rangeSize_one]; split <;> (first | lia | omega)

theorem sm0 {n : Nat} (h : n ≤ 1000) : Builtin.Range.small 0 (n : Nat) 1 = true := small_one (by decide) (by decide) (by (first | lia | omega)) (by (first | lia | omega))
theorem sz0 (n : Nat) : Builtin.Range.rangeSize 0 (n : Nat) 1 = (n : Int) := range_size (Int.sub_zero _)
theorem sm1 {n : Nat} (h : n ≤ 1000) : Builtin.Range.small 1 ((n : Nat) + 1) 1 = true := small_one (by decide) (by decide) (by (first | lia | omega)) (by (first | lia | omega))
theorem sz1 (n : Nat) : Builtin.Range.rangeSize 1 ((n : Nat) + 1) 1 = (n : Int) := range_size (by (first | lia | omega))
theorem fm0 (a : Int) {k : Int} (h : 0 < k) : 0 ≤ a.fmod k := by rw [Int.fmod_eq_emod_of_nonneg _ (Int.le_of_lt h)]; exact Int.emod_nonneg _ (Int.ne_of_gt h)
theorem fm1 (a : Int) {k : Int} (h : 0 < k) : a.fmod k < k := by rw [Int.fmod_eq_emod_of_nonneg _ (Int.le_of_lt h)]; exact Int.emod_lt_of_pos _ h

/-- a list of the ledger's grows -/
theorem r_append {D : Addr} {its : List Value} {n : Nat} {x : Value} {Q : Value → Shared → Prop} (F : Fr g L s.heap m) (N : News g L s.heap news) (U : Upd D (listOf its.toArray n) (listOf (its ++ [x]).toArray (n + 1)) news news')
    (hsz : its.length ≤ 10000)
    (h : ∀ h', Fr g L h' m → News g L h' news' → Heap.SameBut D s.heap h' → Q .none { s with heap := h' }) : wpAny (model prog w) A (call (.builtin "list.append") [.ref D, x]) Q E s := by
  obtain ⟨pre, post, rfl, rfl, a, b⟩ := U.split
  have z := N (D, listOf its.toArray n) (List.mem_append.mpr (.inr (.head _)))
  refine append_at (hsz := by simp only [List.size_toArray]; exact Nat.le_trans hsz (by decide)) z.1 fun h' hs ho' => h h' (F.change hs z.2.1 z.2.2) (news_set N a b hs ?_) hs
  simpa using ho'

theorem r_tup {value slice : Expr} {T : Addr} {l : List Value} {k : Nat} {u : Tok} {x : Value} {Q : Value → Shared → Prop} (ht : IsTup s.heap T l.toArray) (hx : l[k]? = some x) (hk : (k : Int) < 2 ^ 63) (h : Q x s)
    (hs : subscripted slice false (.ref T) (.int k u) = operate [.ref T, .int k u] (getItem (.ref T) (.int k u))) :
    wpAny (model prog w) A (subscriptTail value slice (.ref T) (.int k u)) Q E s :=
  item_tupleT ht (by (first | lia | omega)) hk (by
    have : k < l.length := (List.getElem?_eq_some_iff.mp hx).1
    unfold seqIndex?
    simp; (first | lia | omega)) hx h hs
end

theorem news_cons {g h : Heap} {L I : Addr} {o : Obj} {news : List (Addr × Obj)} (N : News g L h news) (e : h.get? I = some o) (hL : I ≠ L) (hg : g.get? I = none) : News g L h ((I, o) :: news) := by
  intro p hp
  rcases List.mem_cons.mp hp with rfl | hp
  · exact ⟨e, hL, hg⟩
  · exact N p hp
theorem news_at {g h : Heap} {L I : Addr} {o : Obj} {news : List (Addr × Obj)} (N : News g L h news) (hm : (I, o) ∈ news) {h₁ : Heap} (e : h₁.get? I = some o) : ∀ o', h₁.get? I = some o' → h.get? I = some o' := fun o' e' => by
  rw [e] at e'; cases e'; exact N.get hm
theorem kept_g {g h h' : Heap} {L l : Addr} {m m' : Str → Option Value} {its : Array Value} (F : Fr g L h m) (F' : Fr g L h' m') (hl : g.IsList l its) : ∀ o, h.get? l = some o → h'.get? l = some o := fun o e => by
  obtain ⟨o', e', _⟩ := hl
  have := F.keep _ _ e'
  rw [e] at this; cases this
  exact F'.keep _ _ e'
theorem ne_frame {g h : Heap} {L : Addr} {m : Str → Option Value} (F : Fr g L h m) : h.objs.size ≠ L := fun e => by
  have := F.ns.lt; rw [← e] at this; exact Nat.lt_irrefl _ this
end Mine
namespace Mine
open PySem PySem.W PySem.Calls PyProof.Rows

/-- a list of ints, as an object of its own -/
def LsAt (h : Heap) (a : Addr) (ns : List Int) : Prop := ∃ vs q, h.get? a = some (listOf vs.toArray q) ∧ IntsAre vs ns
theorem LsAt.keep {h h' : Heap} {a : Addr} {ns : List Int} (x : LsAt h a ns) (k : Keep h h') : LsAt h' a ns := let ⟨vs, q, e, hi⟩ := x; ⟨vs, q, k _ _ e, hi⟩

theorem keep_hid {g h : Heap} {as : List Addr} (k : Keep g h) (hg : ∀ a ∈ as, g.get? a = none) : Keep g (hideAll h as) := fun b o e => hideAll_get as (k b o e) fun hm => by rw [hg b hm] at e; cases e
theorem hid_keep {h h' : Heap} {as : List Addr} {a : Addr} {o : Obj} (k : Keep (hideAll h as) h') (e : h.get? a = some o) (hn : a ∉ as) : h'.get? a = some o := k _ _ (hideAll_get as e hn)
theorem fr_hid {g h h' : Heap} {L : Addr} {m : Str → Option Value} {as : List Addr} (F : Fr g L h m) (k : Keep (hideAll h as) h') (hg : ∀ a ∈ as, g.get? a = none) (hL : L ∉ as) : Fr g L h' m := by
  obtain ⟨oL, es, ep, hoL, r⟩ := F.ns
  exact ⟨⟨oL, es, ep, hid_keep k hoL hL, r⟩, fun b o e => k _ _ (keep_hid F.keep hg b o e), F.above⟩
theorem ne_obj {h : Heap} {a b : Addr} {o o' : Obj} (e : h.get? a = some o) (e' : h.get? b = some o') (hn : o.data ≠ o'.data) : a ≠ b := fun q => hn (by subst q; rw [e] at e'; cases e'; rfl)

section
variable {prog : Program} {w : World} {A : Around} {E : Value → Shared → Prop} {s : Shared} {K : Frag} {p : Program} {loose : List Str} {mg mb : Str → Option Value} {g : Heap} {L : Addr} {m : Str → Option Value} {news news' : List (Addr × Obj)}

/-- an attribute of an instance's own -/
theorem r_attr {x C dx : Addr} {name : Str} {es : List DictEntry} {k : Nat} {v : Value} {expr : Bool} {attr : Option Value} {Q : Value → Shared → Prop} (G : Gd K p loose mg mb g) (F : Fr g L s.heap m)
    (hx : s.heap.get? x = some (instObj C dx)) (hdx : s.heap.get? dx = some (dictOf es k)) (hg : plainGet K C name = true) (hh : hasDictIn K C = true)
    (ha : findIn K (.ref C) name = some attr) (hn : noGet K attr = true) (hl : getL name es = some (some v)) (hv : handedIn v = true) (h : ∀ tk, Q v { s with toks := tk }) : wpAny (model prog w) A (getAttr (.ref x) name expr) Q E s :=
  get_own F G.x ⟨hx, rfl, rfl, hdx⟩ hg hh ha hn hl hv (h _)
/-- a method of an instance's class -/
theorem r_meth {x C dx f : Addr} {name : Str} {es : List DictEntry} {k : Nat} {pl : Sem Bool} {Q : Value × List Value → Shared → Prop} (G : Gd K p loose mg mb g) (F : Fr g L s.heap m)
    (hx : s.heap.get? x = some (instObj C dx)) (hdx : s.heap.get? dx = some (dictOf es k)) (hg : plainGet K C name = true) (hf : findIn K (.ref C) name = some (some (.ref f))) (ht : isFn K (.ref f) = true) (hl : getL name es = some none)
    (h : Q (.ref f, [.ref x]) s) : wpAny (model prog w) A (getMethod (.ref x) name pl) Q E s := method_inst F G.x ⟨hx, rfl, rfl, hdx⟩ hg hf ht hl h
/-- an item of a list of the ledger's is set -/
theorem r_set {D : Addr} {vs : List Value} {ns : List Int} {n : Nat} {k x : Int} {t u : Tok} {Q : Unit → Shared → Prop} (F : Fr g L s.heap m) (N : News g L s.heap news)
    (U : Upd D (listOf vs.toArray n) (listOf (vs.set k.toNat (.int x u)).toArray n) news news') (hi : IntsAre vs ns) (h0 : 0 ≤ k) (h1 : k < ns.length) (hfit : k < 2 ^ 63)
    (h : ∀ h', Fr g L h' m → News g L h' news' → IntsAre (vs.set k.toNat (.int x u)) (ns.set k.toNat x) → Q () { s with heap := h' }) :
    wpAny (model prog w) A (setItem (.ref D) (.int k t) (.int x u)) Q E s := ksa_set F N U hi h0 h1 hfit fun h' F' N' hi' _ _ => h h' F' N' hi'
end

section
variable {prog : Program} {w : World} {A : Around} {E : Value → Shared → Prop} {s : Shared} {g : Heap} {L a : Addr} {m : Str → Option Value} {news : List (Addr × Obj)} {cn : Str} {cs : Scope} {ccd : Value} {cl : List (Str × Addr)}
/-- «x, y = t» -/
theorem r_unpack2 {x₁ x₂ : Str} {p₁ p₂ pos : Pos} {kk : Nat} {T : Addr} {v₁ v₂ : Value} {Q : Unit → Shared → Prop} (hh : A.handled = none) (F : Fr g L s.heap m) (N : News g L s.heap news) (ht : IsTup s.heap T #[v₁, v₂])
    (h : ∀ h' tk, Fr g L h' (up (up m x₁ v₁) x₂ v₂) → News g L h' news → Keep g h' → Q () { s with heap := h', toks := tk })
    (hk : cs.kind = .function) (h₁ : (envX cn cs L a ccd cl).kindOf x₁ = some .local) (h₂ : (envX cn cs L a ccd cl).kindOf x₂ = some .local) :
    wpAny (model prog w) A (assign (.Tuple [.Name x₁ p₁, .Name x₂ p₂] kk pos) (envX cn cs L a ccd cl) (.ref T)) Q E s := by
  have ht' : s.heap.IsTuple T #[v₁, v₂] := ht
  refine wpAny_assign_Tuple hh ht' rfl rfl fun h' hx => ?_
  have kp : Keep s.heap h' := fun b o e => hx b o (Nat.ne_of_lt (Heap.lt_size e)) e
  show wpAny _ _ (do holding [v₂] (assign (.Name x₁ p₁) (envX cn cs L a ccd cl) v₁); do holding [] (assign (.Name x₂ p₂) (envX cn cs L a ccd cl) v₂); pure ()) _ _ _
  refine wpAny_bind (wpAny_holding (wpAny_assign_Name (r_store (s := { s with heap := h' }) (F.keeps kp) (N.grown kp) (fun h₁ tk F N _ => ?_) hk h₁)))
  refine wpAny_bind (wpAny_holding (wpAny_assign_Name (r_store F N (fun h₂ tk F N kg => ?_) hk h₂)))
  exact wpAny_pure (h h₂ tk F N kg)
end
end Mine
namespace Mine
open PySem PySem.W PySem.Calls PyProof.Rows

section
variable {prog : Program} {w : World} {A : Around} {E : Value → Shared → Prop} {s : Shared} {K : Frag} {p : Program} {loose : List Str} {mg mb : Str → Option Value} {g : Heap} {L : Addr} {m : Str → Option Value} {news news' : List (Addr × Obj)}

theorem enterCode {R : Result → Shared → Prop} {name qual : Str} {params : Arguments} {body : List Stmt} {scope : Scope} {dV kV doc pm cdv ct oc : Value} {an od : Option Addr} {osl : Array (Option Value)} {f : Addr} {args : List Value} {binds : List (Str × Value)}
    (G : Gd K p loose mg mb g) (hg : Keep g s.heap) (hsz : g.objs.size ≤ s.heap.objs.size)
    (ho : K.lookup f = some ⟨oc, od, .func (fnOf name qual params body scope dV kV doc pm an cdv ct), osl⟩) (hcd : codeIn K cdv qual = true) (hroom : A.depth < recursionLimit)
    (hbind : BindsTo s (fnOf name qual params body scope dV kV doc pm an cdv ct) ⟨args, []⟩ binds) (hloc : ∀ y ∈ binds, scope.names.lookup y.1 = some .local)
    (h : ∀ L h₁ tk, Fr g L h₁ (fun y => binds.reverse.lookup y) → Keep s.heap h₁ → s.heap.objs.size ≤ L →
      wpAny (model prog w) (A.deeper (envX qual scope L f cdv [])) (execs body (envX qual scope L f cdv []))
        (fun fl s' => R (.ok (.ret (match fl with | .ret v => v | _ => .none))) s') (fun _ _ => False) { s with heap := h₁, toks := tk })
    (hco : scope.isCoroutine = false) (hgen : scope.isGenerator = false) (hk : scope.kind = .function)
    (hcell : ∀ x ∈ scope.names, x.2 ≠ .cell) : codeAny (model prog w) A (.call (.ref f) ⟨args, []⟩) R s := by
  have X := G.x.keeps hg
  refine codeAny_call_def (fd := fnOf name qual params body scope dV kV doc pm an cdv ct) (body := body) (binds := binds) hroom (X _ _ ho) rfl (G.t.nolimit.keeps hg) (codeRec_of X hcd) rfl hbind hcell hloc (fun h₁ hns hk₁ => ?_) hco hgen hk
  exact wpAny_mono (h s.heap.objs.size h₁ _ ⟨hns, fun b o e => hk₁ b o (hg b o e), hsz⟩ hk₁ (Nat.le_refl _)) (fun fl s' q => q) fun _ _ q => q.elim

theorem enterCodeC {R : Result → Shared → Prop} {name qual : Str} {params : Arguments} {body : List Stmt} {scope : Scope} {dV kV doc pm cdv ct oc : Value} {an od : Option Addr} {osl : Array (Option Value)} {f : Addr} {args : List Value} {binds : List (Str × Value)}
    (G : Gd K p loose mg mb g) (hg : Keep g s.heap) (hsz : g.objs.size ≤ s.heap.objs.size)
    (ho : K.lookup f = some ⟨oc, od, .func (fnOf name qual params body scope dV kV doc pm an cdv ct), osl⟩) (hcd : codeIn K cdv qual = true) (hroom : A.depth < recursionLimit)
    (hbind : BindsTo s (fnOf name qual params body scope dV kV doc pm an cdv ct) ⟨args, []⟩ binds)
    (hkind : (binds.all fun y => scope.names.lookup y.1 == some .local || scope.names.lookup y.1 == some .cell) = true) (hnd : ((cellsFrom 0 scope.names []).map (·.1)).Nodup)
    (h : ∀ L h₁ tk cells, Fr g L h₁ (bindL (envX qual scope L f cdv (cellsFrom (L + 1) scope.names [])).kindOf binds fun _ => none) → News g L h₁ cells →
      CellsAre (bindC (envX qual scope L f cdv (cellsFrom (L + 1) scope.names [])).kindOf binds fun _ => none) (cellsFrom (L + 1) scope.names []) cells → Keep s.heap h₁ → s.heap.objs.size ≤ L →
      wpAny (model prog w) (A.deeper (envX qual scope L f cdv (cellsFrom (L + 1) scope.names []))) (execs body (envX qual scope L f cdv (cellsFrom (L + 1) scope.names [])))
        (fun fl s' => R (.ok (.ret (match fl with | .ret v => v | _ => .none))) s') (fun _ _ => False) { s with heap := h₁, toks := tk })
    (hco : scope.isCoroutine = false) (hgen : scope.isGenerator = false) (hk : scope.kind = .function) : codeAny (model prog w) A (.call (.ref f) ⟨args, []⟩) R s := by
  have X := G.x.keeps hg
  refine codeAny_call_function hroom (X _ _ ho) rfl hco hgen rfl (codeRec_of X hcd) (hbind _ _ _ _ ?_)
  refine wpAny_newFunctionEnv_cells hk (kindsX hkind _) fun env' he s' x => ?_
  subst he
  refine ⟨(G.t.nolimit.keeps hg).keeps x.toInCall.keep, codeAny_func ?_⟩
  obtain ⟨h₁, tk, rfl, _⟩ := x.done
  have hk₁ := x.toInCall.keep
  obtain ⟨cells, NC, Y⟩ := Cl.news (h₀ := s.heap) (Nat.le_refl _) fun n c hm => ⟨x.cell n c (lookup_of_mem_nodup (cellsFrom_names scope.names 0 (s.heap.objs.size + 1) [] [] rfl ▸ hnd) hm), x.above n c hm⟩
  refine wpAny_mono (h s.heap.objs.size h₁ tk cells ⟨x.toInCall.ns, fun b o e => hk₁ b o (hg b o e), hsz⟩ (fun q hq => ⟨(NC q hq).1, (NC q hq).2.1, ?_⟩) Y hk₁ (Nat.le_refl _)) (fun fl s' q => q) fun _ _ q => q.elim
  cases e : g.get? q.1 with
  | none => rfl
  | some o => have := hg _ _ e; rw [(NC q hq).2.2] at this; cases this

/-- a class of the text's is called: what its __init__ must do -/
theorem r_make {C fI : Addr} {pos : List Value} {Q : Value → Shared → Prop} (G : Gd K p loose mg mb s.heap) (hm : makesIn K C = true) (hi : findIn K (.ref C) "__init__" = some (some (.ref fI))) (hf : isFn K (.ref fI) = true)
    (h : ∀ x dx h', x = s.heap.objs.size + 1 → dx = s.heap.objs.size → Keep s.heap h' → h'.get? x = some (instObj C dx) → h'.get? dx = some (dictOf [] 0) → h'.objs.size = s.heap.objs.size + 2 →
      codeAny (model prog w) (A.under (.builtin "type.__call__" ⟨.ref C :: pos, []⟩)) (.call (.ref fI) ⟨.ref x :: pos, []⟩) (InitBack x fun r s' => match r with | .ok (.ret v) => Q v s' | .ok _ => False | .error e => E e s') { s with heap := h' }) :
    wpAny (model prog w) A (call (.ref C) pos) Q E s := by
  refine wpAny_call ?_
  have X := G.x
  obtain ⟨hh, gg, d, t, os⟩ := s
  refine make_core (makes_of X hm) (looks_findIn X hi) (fun self => bind_fn X self (beq_iff_eq.mp hf)) (.inl rfl) ?_
  have e1 : ((hh.push (dictOf [] 0)).push (instObj C hh.objs.size)).get? (hh.objs.size + 1) = some (instObj C hh.objs.size) := by
    have := Heap.get?_push_size (h := hh.push (dictOf [] 0)) (o := instObj C hh.objs.size) rfl
    rwa [Heap.size_push] at this
  exact h (hh.objs.size + 1) hh.objs.size ((hh.push (dictOf [] 0)).push (instObj C hh.objs.size)) rfl rfl (fun b o e => Heap.get?_push_of_some _ (Heap.get?_push_of_some _ e)) e1 (Heap.get?_push_of_some _ (Heap.get?_push_size _ rfl)) (by rw [Heap.size_push, Heap.size_push])
theorem Room.make {A : Around} {d : Nat} (R : Room A (d + 1)) (C : Addr) (pos : List Value) : Room (A.under (.builtin "type.__call__" ⟨.ref C :: pos, []⟩)) d :=
  ⟨R.handled, by have := R.depth; show A.depth + 1 + d < recursionLimit; (first | lia | omega), by
    have := R.units
    have e : (A.under (.builtin "type.__call__" ⟨.ref C :: pos, []⟩)).units = A.units + (Code.builtin "type.__call__" ⟨.ref C :: pos, []⟩).cUnits := rfl
    have e2 : (Code.builtin "type.__call__" ⟨.ref C :: pos, []⟩).cUnits ≤ 8 := Nat.le_of_ble_eq_true rfl
    rw [e]; (first | lia | omega)⟩

/-- an attribute is set: the instance's names lie in the ledger -/
theorem r_setattr {x C dx : Addr} {name : Str} {es : List DictEntry} (es' : Tok → List DictEntry) {k : Nat} (k' : Nat) {v : Value} {news' : Tok → List (Addr × Obj)} {Q : Unit → Shared → Prop} (G : Gd K p loose mg mb g) (F : Fr g L s.heap m) (N : News g L s.heap news)
    (hx : s.heap.get? x = some (instObj C dx)) (hs : findIn K (.ref C) "__setattr__" = some (some (.builtin "object.__setattr__"))) (hp : plainOver K C = true) (ht : takerIn K C name = some none) (hh : hasDictIn K C = true) (hl : (getL name es).isSome = true)
    (e : ∀ t, (putL name (PyData.keyHash w.params name) (.str name t) v es, putN name es k) = (es' t, k')) (U : ∀ t, Upd dx (dictOf es k) (dictOf (es' t) k') news (news' t)) (hz : ∀ t, (es' t).length ≤ 1000)
    (h : ∀ h' tk t, Fr g L h' m → News g L h' (news' t) → Q () { s with heap := h', toks := tk }) : wpAny (model prog w) A (setAttr (.ref x) name v) Q E s := by
  have hdx : s.heap.get? dx = some (dictOf es k) := by
    obtain ⟨pre, post, e1, _, _, _⟩ := (U (s.toks + 1)).split
    exact N.get (by rw [e1]; exact List.mem_append_right _ (List.mem_cons_self ..))
  exact set_dict F G.x N ⟨hx, rfl, rfl, hdx⟩ rfl hs hp ht hh hl (e _) (U _) (hz _) (fun h' F' N' => h h' _ _ F' N')

theorem foldl_rep (v : Value) : ∀ (k : Nat) (acc : List Value), List.foldl (fun x1 x2 => x1 ++ x2) acc.toArray (List.replicate k #[v]) = (acc ++ List.replicate k v).toArray
  | 0, acc => by simp
  | k + 1, acc => by
    rw [List.replicate_succ, List.foldl_cons]
    have : acc.toArray ++ #[v] = (acc ++ [v]).toArray := by simp
    rw [this, foldl_rep v k (acc ++ [v])]
    simp [List.replicate_succ]
/-- «[v] * k» -/
theorem r_rep {l : Addr} {v : Value} {q k : Nat} {u : Tok} {Q : Value → Shared → Prop} (F : Fr g L s.heap m) (N : News g L s.heap news) (hl : s.heap.get? l = some (listOf #[v] q)) (hk : k ≤ 1000)
    (h : ∀ D h', Fr g L h' m → News g L h' ((D, listOf (List.replicate k v).toArray 0) :: news) → (∀ p ∈ news, p.1 < D) → Q (.ref D) { s with heap := h' }) :
    wpAny (model prog w) A (binaryOp .Mult (.ref l) (.int (k : Nat) u)) Q E s := by
  refine mul_list F N hl (by (first | lia | omega)) (by (first | lia | omega)) (by simp; (first | lia | omega)) fun h' F' N' => ?_
  have e := foldl_rep v k []
  simp only [List.nil_append] at e
  have e2 : List.foldl (fun x1 x2 => x1 ++ x2) #[] (List.replicate (if (#[v] : Array Value).isEmpty = true then 0 else ((k : Nat) : Int).toNat) #[v]) = (List.replicate k v).toArray := by
    rw [if_neg (by simp), Int.toNat_natCast]; exact e
  rw [e2] at N'
  exact h _ h' F' N' fun p hp => Heap.lt_size (N p hp).1
theorem ints_rep (t : Tok) : ∀ k : Nat, IntsAre (List.replicate k (.int 0 t)) (List.replicate k 0)
  | 0 => IntsAre.nil
  | k + 1 => by rw [List.replicate_succ, List.replicate_succ]; exact IntsAre.cons _ _ (ints_rep t k)
end
end Mine
namespace Mine
open PySem PySem.W PySem.Calls PyProof.Rows

theorem keep_below {α : Type} (P : Nat → Bool) (a : Nat) : ∀ (l : List α) (i : Nat), (∀ k, i ≤ k → k < i + l.length → P k = decide (a ≤ k)) → (l.zipIdx i).filterMap (fun x => if P x.2 = true then none else some x.1) = l.take (a - i)
  | [], i, _ => by simp
  | x :: r, i, h => by
    have ih := keep_below P a r (i + 1) (fun k h1 h2 => h k (by (first | lia | omega)) (by simp only [List.length_cons]; (first | lia | omega)))
    have h0 := h i (Nat.le_refl _) (by simp only [List.length_cons]; (first | lia | omega))
    rw [List.zipIdx_cons, List.filterMap_cons]
    by_cases hc : a ≤ i
    · have e : a - i = 0 := by (first | lia | omega)
      have e' : a - (i + 1) = 0 := by (first | lia | omega)
      rw [e', List.take_zero] at ih
      simp only [h0, hc, decide_true, if_true]
      rw [ih, e, List.take_zero]
    · obtain ⟨j, hj⟩ : ∃ j, a - i = j + 1 := ⟨a - i - 1, by (first | lia | omega)⟩
      have e' : a - (i + 1) = j := by (first | lia | omega)
      rw [e'] at ih
      simp only [h0, hc, decide_false, Bool.false_eq_true, if_false]
      rw [ih, hj, List.take_succ_cons]

section
variable {prog : Program} {w : World} {A : Around} {E : Value → Shared → Prop} {s : Shared} {K : Frag} {p : Program} {loose : List Str} {mg mb : Str → Option Value} {g : Heap} {L : Addr} {m : Str → Option Value} {news : List (Addr × Obj)} {news' : Nat → List (Addr × Obj)}

theorem del_slice {l sl : Addr} {items : Array Value} {n a : Nat} {vl : Value} {i : Int} {Q : Unit → Shared → Prop} (ho : s.heap.get? l = some (listOf items n))
    (hs : s.heap.IsSliceOf sl vl .none .none) (pl : IsPart vl (some i)) (hb : sliceBounds (some i) none none items.size = ((a : Int), (items.size : Int), 1)) (hsz : items.size ≤ sizeLine)
    (h : ∀ f : Array Value → Array Value, f items = (items.toList.take a).toArray → Q () { s with heap := s.heap.update l (Obj.mapSeq f) }) :
    wpAny (model prog w) A (delItem (.ref l) (.ref sl)) Q E s := by
  have hl : s.heap.IsList l items := PySem.IsL.isList (n := n) ho
  obtain ⟨os, hos, hcs, hds⟩ := id hs
  have hTs : s.TypeIs (.ref sl) "slice" := ⟨os, hos, hcs⟩
  refine wpAny_delItem_slot hl.typeIs (by decide) F.slot_list_delitem ?_
  refine wpAny_call_entry F.slot_list_delitem hl.typeIs F.entry_list_delitem ?_ (F.args_list_delitem_2 _ _)
  show wpAny _ _ (Builtin.List.listSubscript? (.ref sl) >>= _) _ _ s
  refine wpAny_bind ?_
  unfold Builtin.List.listSubscript?
  refine wpAny_bind (wpAny_specialOf hTs slice_no_index ?_)
  simp only [Option.isNone_none, if_true]
  refine wpAny_pure ?_
  show wpAny _ _ (typeOf (.ref sl) >>= _) _ _ s
  refine wpAny_bind (wpAny_typeOf hTs ?_)
  rw [if_neg (by decide)]
  rw [listSliceParts_eq]
  refine wpAny_bind (wpAny_bind (wpAny_field hos hds (x := .none) rfl (wpAny_bind (wpAny_listPart IsPart.none ?_))))
  rw [if_neg (by simp [rawPart, rawInt])]
  refine wpAny_bind (wpAny_field hos hds (x := vl) rfl (wpAny_bind (wpAny_listPart pl ?_)))
  refine wpAny_bind (wpAny_field hos hds (x := .none) rfl (wpAny_bind (wpAny_listPart IsPart.none (wpAny_pure ?_))))
  refine wpAny_bind (m := Builtin.List.listItems (.ref l)) ?_
  unfold Builtin.List.listItems
  refine wpAny_bind (wpAny_seqItems ho rfl (wpAny_pure ?_))
  refine wpAny_bind (wpAny_of_eq (sliceIndices_raw (some i) none none items.size (by simp)) ?_)
  rw [hb]
  have key : ∀ (P : Nat → Bool), (∀ k, P k = (decide ((a : Int) ≤ (k : Int)) && decide ((k : Int) < (items.size : Int)) && (((k : Int) - (a : Int)) % 1 == 0))) →
      (List.filterMap (fun x => if P x.2 = true then none else some x.1) items.toList.zipIdx).toArray = (items.toList.take a).toArray := by
    intro P hP
    congr 1
    have := keep_below P a items.toList 0 (fun k _ hk => by
      rw [hP]
      have : k < items.size := by simpa using hk
      simp [Int.emod_one]; (first | lia | omega))
    simpa using this
  refine wpAny_bind ?_
  refine wpAny_point ?_
  refine wpAny_bind ?_
  refine wpAny_updateSeq ho rfl ?_ hsz ?_
  · refine wpAny_bind (wpAny_letGo ?_)
    refine wpAny_pure ?_
    exact ⟨_, rfl, h _ (key _ fun k => rfl)⟩
  · refine Nat.le_trans (Nat.le_of_eq (congrArg Array.size (key _ fun k => rfl))) ?_
    simp; (first | lia | omega)

/-- «del xs[a:]» of a list of the ledger's; where its slice has been made -/
theorem r_del {D sl : Addr} {vs : List Value} {ns : List Int} {q a : Nat} {vl : Value} {i : Int} {Q : Unit → Shared → Prop} (F : Fr g L s.heap m) (N : News g L s.heap news)
    (hs : s.heap.IsSliceOf sl vl .none .none) (pl : IsPart vl (some i)) (hi : IntsAre vs ns) (ha : (a : Int) = if i < 0 then i + ns.length else i) (hl : a ≤ ns.length) (hz : ns.length ≤ 1000)
    (U : ∀ q', Upd D (listOf vs.toArray q) (listOf (vs.take a).toArray q') news (news' q'))
    (h : ∀ h' q', Fr g L h' m → News g L h' (news' q') → IntsAre (vs.take a) (ns.take a) → Q () { s with heap := h' }) :
    wpAny (model prog w) A (delItem (.ref D) (.ref sl)) Q E s := by
  have e : vs.length = ns.length := hi.length
  obtain ⟨pre, post, e1, _, b1, b2⟩ := (U q).split
  have z := N (D, listOf vs.toArray q) (by rw [e1]; exact List.mem_append.mpr (.inr (.head _)))
  refine del_slice (a := a) z.1 hs pl ?_ (by simp only [List.size_toArray]; rw [e]; exact Nat.le_trans hz (by decide)) fun f hf => ?_
  · simp only [sliceBounds, Option.getD_none, List.size_toArray]
    rw [e, ← ha]
    simp
    (first | lia | omega)
  · have N2 := N
    rw [e1] at N2
    have hf' : f vs.toArray = (vs.take a).toArray := hf
    have N3 := ki_turn f N2 b1 b2 hf' rfl
    refine h _ (if ((vs.take a).toArray.size == vs.toArray.size) = true then q else q + 1) (F.change (Heap.SameBut.update ..) z.2.1 z.2.2) ?_ (hi.take a)
    · obtain ⟨pre', post', e1', e2', b1', b2'⟩ := (U (if ((vs.take a).toArray.size == vs.toArray.size) = true then q else q + 1)).split
      rw [e2']
      refine news_set (o := listOf vs.toArray q) (e1' ▸ N) b1' b2' (Heap.SameBut.update ..) ?_
      exact N3 (D, _) (List.mem_append.mpr (.inr (.head _))) |>.1

/-- «xs[-1]» -/
theorem r_last {value slice : Expr} {l : Addr} {vs : List Value} {ns : List Int} {u : Tok} {Q : Value → Shared → Prop} (hl : s.heap.IsList l vs.toArray) (hi : IntsAre vs ns)
    (h1 : 1 ≤ ns.length) (hf : ns.length ≤ 1000) (h : ∀ t, Q (.int (ns.getD (ns.length - 1) 0) t) s)
    (hs : subscripted slice false (.ref l) (.int (-1) u) = operate [.ref l, .int (-1) u] (getItem (.ref l) (.int (-1) u))) :
    wpAny (model prog w) A (subscriptTail value slice (.ref l) (.int (-1) u)) Q E s := by
  have hlt : ns.length - 1 < ns.length := by (first | lia | omega)
  obtain ⟨t, ht⟩ := hi.get (ns.length - 1) ns[ns.length - 1] (by simp [hlt])
  have e : vs.length = ns.length := hi.length
  refine tail_any hl.typeIs slot_list_getitem.lookup (wpAny_getItem_list_neg (x := .int ns[ns.length - 1] t) hl (by decide) ?_ (by decide) ?_ ?_) hs
  · simp only [List.size_toArray]; (first | lia | omega)
  · have : (-1 + ((vs.toArray.size : Nat) : Int)).toNat = ns.length - 1 := by simp only [List.size_toArray]; (first | lia | omega)
    rw [this]; simpa using ht
  · have e : ns.getD (ns.length - 1) 0 = ns[ns.length - 1] := by simp [hlt]
    rw [← e]; exact h t
end
end Mine
namespace Mine
open PySem PySem.W PySem.Calls PyProof.Rows
section
variable {prog : Program} {w : World} {A : Around} {E : Value → Shared → Prop} {s : Shared} {g : Heap} {L : Addr} {m : Str → Option Value} {news : List (Addr × Obj)}
/-- «xs[a:]», where its slice has been made -/
theorem r_from {value slice : Expr} {l : Addr} {vs : List Value} {ns : List Int} {a : Nat} {t : Tok} {Q : Value → Shared → Prop} (F : Fr g L s.heap m) (N : News g L s.heap news) (hl : s.heap.IsList l vs.toArray) (hi : IntsAre vs ns) (hz : ns.length ≤ 1000)
    (h : ∀ D ws h', Fr g L h' m → News g L h' ((D, listOf (List.toArray ws) 0) :: news) → (∀ p ∈ news, p.1 < D) → IntsAre ws (ns.drop a) → Q (.ref D) { s with heap := h' })
    (hs : subscripted slice false (.ref l) (.ref s.heap.objs.size) = operate [.ref s.heap.objs.size, .ref l] (getItem (.ref l) (.ref s.heap.objs.size))) :
    wpAny (model prog w) A (subscriptTail value slice (.ref l) (.ref s.heap.objs.size)) Q E { s with heap := s.heap.push { cls := .type "slice", data := .fields #[.int (a : Nat) t, .none, .none] } } := by
  refine tail_any (Heap.IsList.typeIs (s := { s with heap := s.heap.push _ }) (hl.push _)) list_getitem_lookup
    (wpAny_getItem_list_slice (hl.push _) (Heap.IsSliceOf.new ..) (IsPart.int _ _) .none .none (by simp) ?_ (by simp only [List.size_toArray]; rw [hi.length]; exact Nat.le_trans hz (by decide))) hs
  have N1 := News.push (F.push { cls := .type "slice", data := .fields #[.int (a : Nat) t, .none, .none] }) (N.grown fun _ _ e => Heap.get?_push_of_some _ e) { cls := .type "list", data := .seq (slicePick vs.toArray (some (a : Nat)) none none) }
  rw [Heap.size_push] at N1
  show Q (.ref (s.heap.push _).objs.size) _
  rw [Heap.size_push]
  have k := kmk_from hi (x := (a : Nat)) (Int.natCast_nonneg _)
  rw [Int.toNat_natCast] at k
  refine h _ (slicePick vs.toArray (some (a : Nat)) none none).toList _ ((F.push _).push _) ?_ (fun p hp => Nat.lt_succ_of_lt (Heap.lt_size (N p hp).1)) k
  rw [Array.toArray_toList]
  exact N1
end
end Mine
namespace Mine
open PySem PySem.W PySem.Calls PyProof.Rows
section
variable {M : Model} {A : Around} {E : Value → Shared → Prop} {s : Shared} {g : Heap} {L a : Addr} {m : Str → Option Value} {cn : Str} {cs : Scope} {ccd : Value} {cl : List (Str × Addr)} {x : Str} {v : Value} {news : List (Addr × Obj)}
theorem r_storeB {Q : Unit → Shared → Prop} (F : Fr g L s.heap m) (N : News g L s.heap news)
    (h : ∀ h' tk, Fr g L h' (up m x v) → News g L h' news → (∀ b o, b ≠ L → s.heap.get? b = some o → h'.get? b = some o) → Q () { s with heap := h', toks := tk })
    (hk : cs.kind = .function) (hx : (envX cn cs L a ccd cl).kindOf x = some .local) : wpAny M A (storeName (envX cn cs L a ccd cl) x v) Q E s := by
  refine wpAny_storeName_local hx F.ns (fun h₂ hn₂ hs₂ => ?_) (by show (cs.kind == .class || (cs.kind == .module && _)) = false; rw [hk]; rfl)
  exact h h₂ _ (F.set hn₂ hs₂) (fun p hp => ⟨hs₂.extBut _ _ (N p hp).2.1 (N p hp).1, (N p hp).2⟩) (fun b o hb e => hs₂.extBut b o hb e)
end
end Mine
namespace Mine
open PySem PySem.W PySem.Calls PyProof.Rows
section
variable {prog : Program} {w : World} {A : Around} {E : Value → Shared → Prop} {s s₂ : Shared} {K : Frag} {p : Program} {loose : List Str} {mg mb : Str → Option Value} {env : Env}

/-- «list(xs)» -/
theorem r_copy {l : Addr} {items : Array Value} {Q : Value → Shared → Prop} (hl : s.heap.IsList l items) (hsz : items.size ≤ sizeLine)
    (h : ∀ h' c, Keep s.heap h' → h'.get? s.heap.objs.size = some (listOf items c) → Q (.ref s.heap.objs.size) { s with heap := h' }) : wpAny (model prog w) A (call (.type "list") [.ref l]) Q E s := by
  obtain ⟨o, ho, hc, n, hd⟩ := hl
  exact call_list_seq (hsz := hsz) l (.inl rfl) ho hc hd fun h' c' hk hD => h h' c' hk hD

/-- «[list(c) for c in ..]» -/
theorem copies_in {scope : Scope} {cl : List (Str × Addr)} {x : Str} {p₁ p₂ p₃ : Pos} {vs : List Value} {css : List (List Int)} {it : Value} {Fin : Addr → Addr → List Value → Shared → Shared → Prop}
    (G : Gd K p loose mg mb s.heap) (hnl : nsIn K mainGlobals "list" = some none) (hcp : Paired (IsI s.heap) vs css) (hvs : vs.length ≤ 1000) (each : ∀ c ∈ css, c.length ≤ 1000)
    (hg : env.globals = mainGlobals) (hb : env.builtins = builtinsNs) (hk : ∀ C, (compEnvC scope cl C env).scope.kind = .function) (h1 : ∀ C, (compEnvC scope cl C env).kindOf "list" = some .globalImplicit) (h2 : ∀ C, (compEnvC scope cl C env).kindOf x = some .local) (hd : (x == ("__debug__" : Str)) = false)
    (H : IterAt prog w A vs.toArray.size (fun i v => vs.toArray[i]? = some v) s it s₂)
    (done : ∀ C D ys s', C ≠ D → s.heap.objs.size < C → s.heap.objs.size < D → Paired (IsI s'.heap) ys css → (∀ y ∈ ys, y ≠ .ref C) → Same s s' → Keep s.heap s'.heap → s'.heap.PlainList D ys.toArray → Fin C D ys s₂ s') :
    CompIn prog w A env scope cl x [] (.Call (.Name "list" p₁) [.Name x p₂] [] p₃) Fin it s₂ := by
  have hlen : vs.toArray.size = css.length := by simp [paired_len hcp]
  refine compIn_o H (by simp only [List.size_toArray]; exact Nat.le_trans hvs (by decide)) (fun i c => c = css.take i) (by simp) ?_ ?_
  · intro C i v s₃ m₃ E' hi hv sm kp hn hm
    obtain ⟨c, hc, b, its, rfl, hbl, hbi⟩ := paired_at hcp (show vs[i]? = some v by simpa using hv)
    have hmem : c ∈ css := List.mem_of_getElem? hc
    refine tests_nil ⟨Same.refl _, Keep.refl _, rfl, ?_⟩
    refine Call_ ?_ rfl
    refine e_boot (G.keeps kp) (v := .type "list") (by boot_fast) hnl (by decide) ?_ hg hb (hk C) (h1 C) (by decide)
    refine Pv.callWith_type1 ?_ rfl rfl
    refine args_cons ?_ rfl
    refine e_local hn hm ?_ (hk C) (h2 C) hd
    refine args_nil ?_
    refine r_copy (stays_list kp hbl) (by simp only [List.size_toArray]; rw [hbi.length]; exact Nat.le_trans (each c hmem) (by decide)) (fun h' q k e => ?_)
    exact ⟨Same.of _ _ _, k, _, its, c, rfl, Nat.le_refl _, IsL.isList e, hbi, fun css' e' => by rw [e', List.take_add_one, hc]; rfl⟩
  · intro C D ys css' s' hCD hC hD hj hp hy sm kp hpl
    rw [hlen, List.take_length] at hj
    exact done C D ys s' hCD hC hD (hj ▸ hp) hy sm kp hpl
end
end Mine
namespace Mine
open PySem PySem.W PySem.Calls PyProof.Rows

/-- all that lies in h beside g, the frame and d: a ledger of it all -/
def allOf (g h : Heap) (L d : Addr) : List (Addr × Obj) := (List.range h.objs.size).filterMap fun b => match h.get? b with
  | some o => if b = L ∨ b = d ∨ (g.get? b).isSome = true then none else some (b, o)
  | none => none
theorem mem_allOf {g h : Heap} {L d b : Addr} {o : Obj} (e : h.get? b = some o) (h1 : b ≠ L) (h2 : b ≠ d) (h3 : g.get? b = none) : (b, o) ∈ allOf g h L d := by
  refine List.mem_filterMap.mpr ⟨b, List.mem_range.mpr (Heap.lt_size e), ?_⟩
  rw [e]
  simp only
  rw [if_neg]
  rw [h3]
  rintro (q | q | q)
  · exact h1 q
  · exact h2 q
  · cases q
theorem of_allOf {g h : Heap} {L d : Addr} {p : Addr × Obj} (hp : p ∈ allOf g h L d) : h.get? p.1 = some p.2 ∧ p.1 ≠ L ∧ p.1 ≠ d ∧ g.get? p.1 = none := by
  obtain ⟨b, _, hb⟩ := List.mem_filterMap.mp hp
  split at hb
  · rename_i o e
    split at hb
    · cases hb
    · rename_i hn
      cases hb
      simp only [not_or] at hn
      refine ⟨e, hn.1, hn.2.1, ?_⟩
      cases q : g.get? b with
      | none => rfl
      | some o => rw [q] at hn; exact absurd rfl hn.2.2
  · cases hb

section
variable {prog : Program} {w : World} {A : Around} {E : Value → Shared → Prop} {s : Shared} {K : Frag} {p : Program} {loose : List Str} {mg mb : Str → Option Value} {g : Heap} {L : Addr} {m : Str → Option Value} {news : List (Addr × Obj)}
/-- an attribute is set: nothing but the instance's names is turned -/
theorem r_setattrB {x C dx : Addr} {name : Str} {es : List DictEntry} (es' : Tok → List DictEntry) {k : Nat} (k' : Nat) {v : Value} {Q : Unit → Shared → Prop} (G : Gd K p loose mg mb g) (F : Fr g L s.heap m)
    (hx : s.heap.get? x = some (instObj C dx)) (hdx : s.heap.get? dx = some (dictOf es k)) (hdL : dx ≠ L) (hdg : g.get? dx = none)
    (hs : findIn K (.ref C) "__setattr__" = some (some (.builtin "object.__setattr__"))) (hp : plainOver K C = true) (ht : takerIn K C name = some none) (hh : hasDictIn K C = true) (hl : (getL name es).isSome = true)
    (e : ∀ t, (putL name (PyData.keyHash w.params name) (.str name t) v es, putN name es k) = (es' t, k')) (hz : ∀ t, (es' t).length ≤ 1000)
    (h : ∀ h' tk t, Fr g L h' m → h'.get? dx = some (dictOf (es' t) k') → (∀ b o, b ≠ dx → s.heap.get? b = some o → b ≠ L → h'.get? b = some o) → Q () { s with heap := h', toks := tk }) : wpAny (model prog w) A (setAttr (.ref x) name v) Q E s := by
  have N : News g L s.heap ((dx, dictOf es k) :: allOf g s.heap L dx) := by
    intro q hq
    rcases List.mem_cons.mp hq with r | r
    · rw [r]; exact ⟨hdx, hdL, hdg⟩
    · obtain ⟨a, b, c, d⟩ := of_allOf r
      exact ⟨a, b, d⟩
  refine r_setattr (news' := fun t => (dx, dictOf (es' t) k') :: allOf g s.heap L dx) es' k' G F N hx hs hp ht hh hl e (fun t => Upd.head fun q hq => (of_allOf hq).2.2.1) hz (fun h' tk t F' N' => ?_)
  refine h h' tk t F' (N'.get (List.mem_cons_self ..)) fun b o hb eb hbL => ?_
  cases q : g.get? b with
  | some o' =>
    have := F.keep _ _ q
    rw [eb] at this; cases this
    exact F'.keep _ _ q
  | none => exact N'.get (List.mem_cons_of_mem _ (mem_allOf eb hbL hb q))
end
end Mine
namespace Mine
open PySem PySem.W PySem.Calls PyProof.Rows
section
variable {M : Model} {A : Around} {E : Value → Shared → Prop} {s : Shared} {g : Heap} {L a : Addr} {m : Str → Option Value} {cn : Str} {cs : Scope} {ccd : Value} {cl : List (Str × Addr)} {x : Str} {v : Value} {c : Addr} {o : Obj} {v₀ : Option Value}
/-- a cell's name is stored: nothing but the cell is turned -/
theorem r_storeC {Q : Unit → Shared → Prop} (F : Fr g L s.heap m) (hc : cl.lookup x = some c) (ho : s.heap.get? c = some o) (hcL : c ≠ L) (hcg : g.get? c = none) (hd : o.data = .cell v₀)
    (h : ∀ h' o', Fr g L h' m → h'.get? c = some o' → o'.data = .cell (some v) → (∀ b ob, b ≠ c → s.heap.get? b = some ob → h'.get? b = some ob) → Q () { s with heap := h' })
    (hk : cs.kind = .function) (hx : (envX cn cs L a ccd cl).kindOf x = some .cell) : wpAny M A (storeName (envX cn cs L a ccd cl) x v) Q E s := by
  refine wpAny_storeName_cell hk hx hc ⟨o, ho, hd⟩ fun h' hv hs => ?_
  obtain ⟨o', ho', hd'⟩ := hv
  refine h h' o' ⟨F.ns.sameBut hs (Ne.symm hcL), fun b ob e => (hs.2 b (fun q => ?_)).trans (F.keep b ob e), F.above⟩ ho' hd' (fun b ob hb e => hs.extBut b ob hb e)
  rw [q, hcg] at e; cases e
end
/-- lists of ints that lie apart from bad -/
def Rows (bad : List Addr) (h : Heap) (vs : List Value) (css : List (List Int)) : Prop := Paired (fun v c => ∃ T its, v = .ref T ∧ T ∉ bad ∧ h.IsList T (List.toArray its) ∧ IntsAre its c) vs css
theorem Rows.move {bad : List Addr} {h h' : Heap} {vs : List Value} {css : List (List Int)} (x : Rows bad h vs css) (k : ∀ b o, b ∉ bad → h.get? b = some o → h'.get? b = some o) : Rows bad h' vs css :=
  x.mono fun _ _ ⟨T, its, e, hb, hl, hi⟩ => ⟨T, its, e, hb, hl.at fun o e => k T o hb e, hi⟩
theorem Rows.paired {bad : List Addr} {h : Heap} {vs : List Value} {css : List (List Int)} (x : Rows bad h vs css) : Paired (IsI h) vs css := x.mono fun _ _ ⟨T, its, e, _, hl, hi⟩ => ⟨T, its, e, hl, hi⟩
end Mine
namespace Mine
open PySem PySem.W PySem.Calls PyProof.Rows

/-- all is kept but what code tables hold -/
def KeepT (h h' : Heap) : Prop := ∀ b o, h.get? b = some o → (∀ ps, o ≠ tabObj ps) → h'.get? b = some o
theorem KeepT.of {h h' : Heap} (k : Keep h h') : KeepT h h' := fun b o e _ => k b o e
theorem KeepT.refl (h : Heap) : KeepT h h := fun _ _ e _ => e
theorem KeepT.trans {a b c : Heap} (x : KeepT a b) (y : KeepT b c) : KeepT a c := fun d o e n => y d o (x d o e n) n
theorem tab_cls {o : Obj} {c : Value} (h : o.cls = c) (hc : c ≠ .none) : ∀ ps, o ≠ tabObj ps := fun ps q => hc (by rw [← h, q])
theorem tab_data {o : Obj} (h : ∀ ps, o.data ≠ .fields ps) : ∀ ps, o ≠ tabObj ps := fun ps q => h ps (by rw [q])
theorem KeepT.list {h h' : Heap} {a : Addr} {its : Array Value} (k : KeepT h h') (x : h.IsList a its) : h'.IsList a its :=
  let ⟨o, e, hc, r⟩ := x; ⟨o, k _ _ e (tab_cls hc (by simp)), hc, r⟩
theorem KeepT.ns {h h' : Heap} {a : Addr} {m : Str → Option Value} (k : KeepT h h') (x : h.Ns a m) : h'.Ns a m :=
  let ⟨o, es, ep, e, hd, r⟩ := x; ⟨o, es, ep, k _ _ e (tab_data fun ps q => by rw [hd] at q; cases q), hd, r⟩
theorem KeepT.ll {h h' : Heap} {a : Addr} {css : List (List Int)} (k : KeepT h h') (x : IsLL h a css) : IsLL h' a css :=
  let ⟨vs, hl, hp⟩ := x; ⟨vs, k.list hl, hp.mono fun _ _ ⟨b, its, e, hl, hi⟩ => ⟨b, its, e, k.list hl, hi⟩⟩
theorem KeepT.cell {h h' : Heap} {c : Addr} {v : Option Value} (k : KeepT h h') (x : h.IsCell c v) : h'.IsCell c v :=
  let ⟨o, e, hd⟩ := x; ⟨o, k _ _ e (tab_data fun ps q => by rw [hd] at q; cases q), hd⟩
/-- a code's head, opened once -/
theorem hdOpen {h : Heap} {c P : Addr} (x : CodeHd h c P) : ∃ o, h.get? c = some o ∧ o.cls = .type "code" ∧ (∃ fs, o.data = .fields fs) ∧ ∀ h' : Heap, h'.get? c = some o → CodeHd h' c P := by
  obtain ⟨o, vs, file, tf, flags, tg, inF, text, tt, e, hc, hd, r⟩ := x
  exact ⟨o, e, hc, ⟨vs, hd⟩, fun h' e' => ⟨o, vs, file, tf, flags, tg, inF, text, tt, e', hc, hd, r⟩⟩
theorem hdLt {h : Heap} {c P : Addr} (x : CodeHd h c P) : c < h.objs.size := by
  obtain ⟨_, e, _⟩ := hdOpen x
  exact Heap.lt_size e
theorem KeepT.frag {K : Frag} {h h' : Heap} (k : KeepT h h') (hK : noTabs K = true) (x : K.In h) : K.In h' := fun a o e => by
  refine k a o (x a o e) fun ps q => ?_
  have h2 := List.all_eq_true.mp hK (a, o) (mem_of_lookupK e)
  subst q
  exact absurd (show false = true from h2) Bool.false_ne_true
theorem Gd.keepT {K : Frag} {p : Program} {loose : List Str} {mg mb : Str → Option Value} {h h' : Heap} (G : Gd K p loose mg mb h) (k : KeepT h h') (hK : noTabs K = true) : Gd K p loose mg mb h' :=
  ⟨k.frag hK G.x, ⟨k.ns G.t.g, k.ns G.t.b, let ⟨mc, a, r⟩ := G.t.nolimit; ⟨mc, k.ns a, r⟩, G.t.builtins, G.t.free⟩⟩
theorem KeepT.bmod {h h' : Heap} {g bm : Addr} {mg : Str → Option Value} {ob : Obj} (k : KeepT h h') (x : BMod h g mg bm ob) : BMod h' g mg bm ob :=
  ⟨k.ns x.ns, x.name, x.ne, k _ _ x.obj (tab_data fun ps q => by rw [x.data] at q; cases q), x.cls, x.dict, x.data⟩
theorem KeepT.but {h h' : Heap} {P : Addr} {ps : Array Value} (e : h.get? P = some (tabObj ps)) (k : ∀ b o, b ≠ P → h.get? b = some o → h'.get? b = some o) : KeepT h h' := fun b o eb hn =>
  k b o (fun q => by rw [q, e] at eb; cases eb; exact hn _ rfl) eb

/-- a code and its table -/
def TabC (h : Heap) (c P : Addr) : Prop := CodeHd h c P ∧ ∃ ps, h.get? P = some (tabObj ps) ∧ TriplesOk ps.toList
theorem TabC.keep {h h' : Heap} {c P : Addr} (x : TabC h c P) (k : Keep h h') : TabC h' c P := let ⟨a, ps, e, t⟩ := x; ⟨a.keeps k, ps, k _ _ e, t⟩
theorem TabC.lt {h : Heap} {c P : Addr} (x : TabC h c P) : P < h.objs.size := by
  obtain ⟨_, _, e, _⟩ := x
  exact Heap.lt_size e
theorem TabC.move {h h' : Heap} {c P : Addr} (x : TabC h c P) (k : ∀ b o, b = c ∨ b = P → h.get? b = some o → h'.get? b = some o) : TabC h' c P := by
  obtain ⟨a, ps, e, t⟩ := x
  obtain ⟨o, e1, _, _, k'⟩ := hdOpen a
  exact ⟨k' _ (k _ _ (.inl rfl) e1), ps, k _ _ (.inr rfl) e, t⟩
/-- a def's code whose table may hold the code of one generator expression -/
def HInv (Av : Addr → Prop) (pos : Pos) (c P : Addr) (h : Heap) : Prop := CodeHd h c P ∧ ∃ ps, h.get? P = some (tabObj ps) ∧ TriplesOk ps.toList ∧ (codeAmong pos ps.toList = none ∨ ∃ c' P', codeAmong pos ps.toList = some (.ref c') ∧ (P' ≠ P ∧ Av P' ∧ Av c') ∧ TabC h c' P')
theorem HInv.keep {Av : Addr → Prop} {pos : Pos} {c P : Addr} {h h' : Heap} (x : HInv Av pos c P h) (k : Keep h h') : HInv Av pos c P h' :=
  let ⟨a, ps, e, t, r⟩ := x; ⟨a.keeps k, ps, k _ _ e, t, r.imp id fun ⟨c', P', f, n, T⟩ => ⟨c', P', f, n, T.keep k⟩⟩
theorem HInv.mono {Av Av' : Addr → Prop} {pos : Pos} {c P : Addr} {h : Heap} (x : HInv Av pos c P h) (k : ∀ b, Av b → b < h.objs.size → Av' b) : HInv Av' pos c P h :=
  let ⟨a, ps, e, t, r⟩ := x; ⟨a, ps, e, t, r.imp id fun ⟨c', P', f, n, T⟩ => ⟨c', P', f, ⟨n.1, k _ n.2.1 T.lt, k _ n.2.2 (hdLt T.1)⟩, T⟩⟩
theorem HInv.step {Av : Addr → Prop} {pos : Pos} {c P : Addr} {h h' : Heap} {bad : List Addr} (x : HInv Av pos c P h) (hc : c ∉ bad) (hP : P ∉ bad) (hav : ∀ b, Av b → b ∉ bad) (k : ∀ b o, b ∉ bad → h.get? b = some o → h'.get? b = some o) : HInv Av pos c P h' := by
  obtain ⟨a, ps, e2, t, alt⟩ := x
  obtain ⟨o, e, _, _, k'⟩ := hdOpen a
  refine ⟨k' _ (k _ _ hc e), ps, k _ _ hP e2, t, alt.imp id ?_⟩
  rintro ⟨c', P', f, n, T⟩
  exact ⟨c', P', f, n, T.move fun b o hb e => k b o (by rcases hb with q | q <;> rw [q] <;> first | exact hav _ n.2.2 | exact hav _ n.2.1) e⟩
theorem HInv.first {Av : Addr → Prop} {pos : Pos} {c P : Addr} {h : Heap} (a : CodeHd h c P) (e : h.get? P = some (tabObj #[])) : HInv Av pos c P h := ⟨a, #[], e, trivial, .inl rfl⟩

section
variable {M : Model} {A : Around} {E : Value → Shared → Prop} {s : Shared} {env : Env}
/-- the code of a generator expression of a def's -/
theorem code_get {Av : Addr → Prop} {pos : Pos} {c P : Addr} {qual : Str} {scope : Scope} {Q : Value → Shared → Prop} (hc : env.code = .ref c) (hz : ∀ x, @LE.le Nat _ s.heap.objs.size x → Av x) (H : HInv Av pos c P s.heap)
    (h : ∀ c' P' h' tk, KeepT s.heap h' → (∀ b o, b ≠ P → s.heap.get? b = some o → h'.get? b = some o) → HInv Av pos c P h' → TabC h' c' P' → (P' ≠ P ∧ Av P' ∧ Av c') → (∃ ps, h'.get? P = some (tabObj ps) ∧ codeAmong pos ps.toList = some (.ref c')) → Q (.ref c') { s with heap := h', toks := tk }) :
    wpAny M A (genexprCode env pos qual scope) Q E s := by
  obtain ⟨a, ps, e, t, r⟩ := H
  rcases r with hn | ⟨c', P', hf, hne, T⟩
  · refine wpAny_genexprCodeX hc (a.code e t) (a.tab e) hn (fun c' h' tk hx l1 l2 hcode hrec htab htab' => ?_)
    obtain ⟨P', lP, hc', ht'⟩ := htab'
    have hP : h'.get? P = some (tabObj (ps ++ #[rawInt pos.line, rawInt pos.col, .ref c'])) := htab.2
    have hf : codeAmong pos (ps ++ #[rawInt pos.line, rawInt pos.col, .ref c']).toList = some (.ref c') := by
      rw [Array.toList_append]; exact codeAmong_snoc _ t hn
    have tr : TriplesOk (ps ++ #[rawInt pos.line, rawInt pos.col, .ref c']).toList := by
      rw [Array.toList_append]; exact TriplesOk_snoc _ _ _ _ t
    have TC : TabC h' c' P' := ⟨CodeHd.of hc' ht', #[], ht'.2, trivial⟩
    have hne : P' ≠ P ∧ Av P' ∧ Av c' := ⟨Nat.ne_of_gt (Nat.lt_of_lt_of_le (Heap.lt_size e) lP), hz _ lP, hz _ l1⟩
    exact h c' P' h' tk (KeepT.but e fun b o hb eb => hx b o hb eb) (fun b o hb eb => hx b o hb eb) ⟨CodeHd.of hcode htab, _, hP, tr, .inr ⟨c', P', hf, hne, TC⟩⟩ TC hne ⟨_, hP, hf⟩
  · refine wpAny_genexprCode_hit hc (a.code e t) hf ?_
    exact h c' P' s.heap s.toks (KeepT.refl _) (fun _ _ _ e => e) ⟨a, ps, e, t, .inr ⟨c', P', hf, hne, T⟩⟩ T hne ⟨ps, e, hf⟩
end
end Mine
namespace Mine
open PySem PyProof.Rows
section
variable {prog : Program} {w : World} {A : Around}

def protoJ (ex fp : List Addr) (n₀ : Nat) (F : Nat → Value → Prop) (J : Heap → Prop) : Protocol := fun m s₀ v s kap =>
  F (n₀ - 1 - m) v ∧ Calm ex s₀ s ∧ J s.heap ∧ ∀ s'' : Shared, (∀ b ∈ fp, ∀ o, s.heap.get? b = some o → s''.heap.get? b = some o) → kap (.send .none) s''
def endJ (ex : List Addr) (J : Heap → Prop) (n : Nat) (s₀ s₁ : Shared) : Prop := n = 0 ∧ Calm ex s₀ s₁ ∧ J s₁.heap

theorem seg_loopJ {elt iter : Expr} {x : Str} {px : Pos} {scope : Scope} {pos : Pos} {I : Addr} {fp₀ wr₀ fj we : List Addr} {n₀ : Nat} {P F : Nat → Value → Prop} {St₀ : Nat → Heap → Prop} {J : Heap → Prop} {cenv : Env}
    (hh : A.handled = none) (W₀ : ∀ A' : Around, A'.handled = none → Walks prog w A' I fp₀ wr₀ n₀ P St₀) (L : LieN cenv.locals fp₀ wr₀ fj we J)
    (hx : cenv.kindOf x = some .local) (hp : (cenv.scope.kind == .class || (cenv.scope.kind == .module && cenv.locals != cenv.globals)) = false)
    (hco : cenv.scope.isCoroutine = false) (hel : EltN prog w cenv x elt we n₀ P F J (A.depth + 1) (A.units + 3)) :
    ∀ (k i : Nat) (s₀ s : Shared) (m : Str → Option Value), n₀ - i = k → i ≤ n₀ → St₀ i s.heap → s.heap.Ns cenv.locals m → Calm (exN cenv.locals wr₀ we) s₀ s → J s.heap →
      Seg (model prog w) A (fun n s₀ r s₁ => r = .ok .next ∧ endJ (exN cenv.locals wr₀ we) J n s₀ s₁) (protoJ (exN cenv.locals wr₀ we) (fpN cenv.locals fp₀ fj) n₀ F J) k s₀
        (.compLoop (.GeneratorExp elt [⟨.Name x px, iter, [], 0⟩] scope pos) 0 (.ref I) .none cenv)
        ((model prog w).den (.compLoop (.GeneratorExp elt [⟨.Name x px, iter, [], 0⟩] scope pos) 0 (.ref I) .none cenv)) [] s := by
  have hh' : (A.over (.compLoop (.GeneratorExp elt [⟨.Name x px, iter, [], 0⟩] scope pos) 0 (.ref I) .none cenv) []).handled = none := hh
  have hdep' : (A.over (.compLoop (.GeneratorExp elt [⟨.Name x px, iter, [], 0⟩] scope pos) 0 (.ref I) .none cenv) []).depth ≤ A.depth + 1 := Nat.le_of_eq rfl
  have huni' : (A.over (.compLoop (.GeneratorExp elt [⟨.Name x px, iter, [], 0⟩] scope pos) 0 (.ref I) .none cenv) []).units ≤ A.units + 3 := Nat.le_of_eq rfl
  have hCw : cenv.locals ∉ wr₀ := fun h => L.cf ((W₀ A hh).sub _ h)
  have hCe : cenv.locals ∉ we := fun h => L.cj (L.ej _ h)
  have up0 : ∀ {h h' : Heap}, (∀ b o, b ∉ wr₀ → h.get? b = some o → h'.get? b = some o) → ∀ b o, b ∉ exN cenv.locals wr₀ we → h.get? b = some o → h'.get? b = some o :=
    fun hk b o hb e => hk b o (fun q => hb (List.mem_cons_of_mem _ (List.mem_append_left _ q))) e
  intro k
  induction k with
  | zero =>
    intro i s₀ s m hk hi hst hn hsince hj
    have hin : i = n₀ := by (first | lia | omega)
    subst hin
    show Seg _ A _ _ _ s₀ _ ((compTurn (.GeneratorExp elt [⟨.Name x px, iter, [], 0⟩] scope pos) 0 (.ref I) .none cenv).onRaise (leaving cenv)) [] s
    rw [compTurn_gen, Sem.onRaise_eq_wrap]
    refine seg_bind_wrap (wpAny_standAt ?_)
    refine seg_bind_wrap ((W₀ _ hh').done s _ _ hst fun h' tk hk' => ?_)
    exact seg_end (.ok .next) ⟨rfl, rfl, hsince.trans (.of (up0 hk')), L.st _ _ hj fun b hb o e => hk' b o (L.jw b hb) e⟩
  | succ k ih =>
    intro i s₀ s m hk hi hst hn hsince hj
    have hlt : i < n₀ := by (first | lia | omega)
    show Seg _ A _ _ _ s₀ _ ((compTurn (.GeneratorExp elt [⟨.Name x px, iter, [], 0⟩] scope pos) 0 (.ref I) .none cenv).onRaise (leaving cenv)) [] s
    rw [compTurn_gen, Sem.onRaise_eq_wrap]
    refine seg_bind_wrap (wpAny_standAt ?_)
    refine seg_bind_wrap ((W₀ _ hh').item i s _ _ hlt hst fun v h₁ tk₁ hPv hst₁ hk₁ => ?_)
    refine seg_bind_wrap (wpAny_of_eq (rfl : letOwnedTupleGo (.Name x px) (.ref I) v = pure ()) ?_)
    refine seg_bind_wrap (wpAny_assign_Name (wpAny_storeName_local hx (hn.at' fun o e => hk₁ _ o hCw e) (fun h₂ hn₂ hs₂ => ?_) hp))
    have up₂ : ∀ b o, b ≠ cenv.locals → b ∉ wr₀ → s.heap.get? b = some o → h₂.get? b = some o := fun b o hbC hbw e => hs₂.extBut b o hbC (hk₁ b o hbw e)
    have hst₂ : St₀ (i + 1) h₂ := (W₀ A hh).frame _ _ _ hst₁ fun b hb o e => hs₂.extBut b o (fun h => L.cf (h ▸ hb)) e
    have hj₂ : J h₂ := L.st _ _ hj fun b hb o e => up₂ b o (fun h => L.cj (h ▸ hb)) (L.jw b hb) e
    have hsince₂ : Calm (exN cenv.locals wr₀ we) s₀ { s with heap := h₂, toks := tk₁ + 1 } := hsince.trans (.of fun b o hb e => up₂ b o (fun h => hb (h ▸ List.mem_cons_self ..)) (fun q => hb (List.mem_cons_of_mem _ (List.mem_append_left _ q))) e)
    show Seg _ A _ _ _ s₀ _ (((do let v ← eval elt cenv; standAt elt.pos; let _ ← yieldOut cenv v; pure PUnit.unit) >>= fun _ => _).wrap _ _ _ _) [] _
    have hy : ∀ v, yieldOut cenv v = yieldValue v := fun v => by simp only [yieldOut, hco, Bool.false_eq_true, if_false]
    simp only [hy]
    rw [Sem.bind_eq_wrap', Sem.bind_eq_wrap', Sem.wrap_wrap, Sem.wrap_wrap]
    refine seg_wrap (wpAny_mono (hel _ _ i v _ _ hh' hdep' huni' hlt hPv hn₂ (by simp) hj₂) (fun y s₄ h₄ => ?_) fun _ _ e => e)
    obtain ⟨hFy, hc, hj₄⟩ := h₄
    have hidx : n₀ - 1 - k = i := by (first | lia | omega)
    refine seg_at (seg_yield rfl rfl rfl ⟨by rw [hidx]; exact hFy, hsince₂.trans (hc.mono fun b hb => List.mem_cons_of_mem _ (List.mem_append_right _ hb)), hj₄, fun s'' hal => ?_⟩)
    refine seg_again rfl (ih (i + 1) s'' s'' _ (by (first | lia | omega)) hlt ((W₀ A hh).frame _ _ _ hst₂ fun b hb o e => ?_) ((hn₂.at' fun o e => ?_)) (Calm.refl _ _) (L.st _ _ hj₄ fun b hb o e => ?_))
    · exact hal b (List.mem_cons_of_mem _ (List.mem_append_left _ hb)) o (hc.heap b o (fun q => L.ef b q hb) e)
    · exact hal _ (List.mem_cons_self ..) o (hc.heap _ o hCe e)
    · exact hal b (List.mem_cons_of_mem _ (List.mem_append_right _ hb)) o e

theorem seg_startJ {elt iter : Expr} {x : Str} {px : Pos} {scope : Scope} {pos : Pos} {I : Addr} {fp₀ wr₀ fj we : List Addr} {n₀ : Nat} {P F : Nat → Value → Prop} {St₀ : Nat → Heap → Prop} {J : Heap → Prop} {cenv : Env}
    (hh : A.handled = none) (W₀ : ∀ A' : Around, A'.handled = none → Walks prog w A' I fp₀ wr₀ n₀ P St₀) (L : LieN cenv.locals fp₀ wr₀ fj we J)
    (hx : cenv.kindOf x = some .local) (hp : (cenv.scope.kind == .class || (cenv.scope.kind == .module && cenv.locals != cenv.globals)) = false)
    (hco : cenv.scope.isCoroutine = false) (hel : EltN prog w cenv x elt we n₀ P F J (A.depth + 1) (A.units + 3))
    (s : Shared) (m : Str → Option Value) (hst : St₀ 0 s.heap) (hn : s.heap.Ns cenv.locals m) (hj : J s.heap) :
      Seg (model prog w) A (fun n s₀ r s₁ => r = .ok .next ∧ endJ (exN cenv.locals wr₀ we) J n s₀ s₁) (protoJ (exN cenv.locals wr₀ we) (fpN cenv.locals fp₀ fj) n₀ F J) n₀ s
        (.compStart (.GeneratorExp elt [⟨.Name x px, iter, [], 0⟩] scope pos) 0 (.ref I) .none cenv)
        ((model prog w).den (.compStart (.GeneratorExp elt [⟨.Name x px, iter, [], 0⟩] scope pos) 0 (.ref I) .none cenv)) [] s := by
  have hh' : (A.over (.compStart (.GeneratorExp elt [⟨.Name x px, iter, [], 0⟩] scope pos) 0 (.ref I) .none cenv) []).handled = none := hh
  have loop := seg_loopJ (iter := iter) (px := px) (scope := scope) (pos := pos) hh W₀ L hx hp hco hel n₀ 0 s s m (Nat.sub_zero _) (Nat.zero_le _) hst hn (Calm.refl _ _) hj
  show Seg _ A _ _ _ s _ ((compStart (.GeneratorExp elt [⟨.Name x px, iter, [], 0⟩] scope pos) 0 (.ref I) .none cenv).onRaise (leaving cenv)) [] s
  unfold compStart
  rw [Sem.onRaise_eq_wrap]
  show Seg _ A _ _ _ s _ ((ask >>= _).wrap _ _ _ _) [] s
  refine seg_bind_wrap (wpAny_askSetting ?_)
  split
  · exact seg_again rfl loop
  · first
      | exact seg_bind_wrap (wpAny_rule (seg_bind_wrap (wpAny_standAt (seg_bind_wrap ((W₀ _ hh').self 0 s _ _ hst (seg_again rfl loop))))))
      | (refine seg_bind_wrap (wpAny_rule ?_); show Seg _ A _ _ _ s _ ((standAt iter.pos >>= _).wrap _ _ _ _) [] s; exact seg_bind_wrap (wpAny_standAt (seg_bind_wrap ((W₀ _ hh').self 0 s _ _ hst (seg_again rfl loop)))))

/-- the generator g stands ahead of its item j -/
def AtJ (prog : Program) (w : World) (A : Around) (a : Addr) (g : Nat) (ex fp : List Addr) (n₀ : Nat) (F : Nat → Value → Prop) (J : Heap → Prop) (j : Nat) (s : Shared) : Prop :=
  s.heap.IsGen a g ∧ s.heap.NoLimit ∧ ∃ gs, s.gens[g]? = some gs ∧ ∀ s'' : Shared, (∀ b ∈ fp, ∀ o, s.heap.get? b = some o → s''.heap.get? b = some o) →
    gs.Goes (model prog w) A.in1 (fun n s₀ r s₁ => r = .ok .next ∧ endJ ex J n s₀ s₁) (protoJ ex fp n₀ F J) (n₀ - j) (.send .none) s''

theorem itemJ {ex fp : List Addr} {n₀ : Nat} {F : Nat → Value → Prop} {J : Heap → Prop} {a : Addr} {g j : Nat} {s : Shared} {Q : Option Value → Shared → Prop} {E : Value → Shared → Prop} (hh : A.handled = none) (haf : a ∉ fp) (hsub : ∀ b ∈ ex, b ∈ fp)
    (hroom : A.depth < recursionLimit) (hcw : cStatics ∉ ex) (hj : j < n₀) (st : AtJ prog w A a g ex fp n₀ F J j s)
    (hQ : ∀ v s', F j v → AtJ prog w A a g ex fp n₀ F J (j + 1) s' → Moved ex (FromG g) s s' → J s'.heap → Q (some v) s') : wpAny (model prog w) A (pyNext (.ref a)) Q E s := by
  obtain ⟨hg, hl, gs, hgs, hgo⟩ := st
  obtain ⟨m, hm⟩ : ∃ m, n₀ - j = m + 1 := ⟨n₀ - j - 1, by (first | lia | omega)⟩
  rw [hm] at hgo
  have haw : a ∉ ex := fun h => haf (hsub a h)
  refine wpAny_with_toks (Nat.le_refl s.toks) ?_
  refine wpAny_pyNext_genexpQ (P := endJ ex J) hh hl hroom hg hgs (hgo _ fun _ _ _ e => e) (fun v s₁ gs' hb hv => ?_) (fun s₁ hp h' hk => ?_)
  · obtain ⟨hF, hc, hJ, hkap⟩ := hv
    have hidx : n₀ - 1 - (m + 1 - 1) = j := by (first | lia | omega)
    rw [hidx] at hF
    intro htk
    have hg1 : s₁.gens[g]? = some .running := by
      rw [hc.gens.old g (by rw [setGen_size]; exact (Array.getElem?_eq_some_iff.mp hgs).1)]; exact setGen_self hgs
    refine hQ v _ hF ⟨let ⟨o, nm, qn, ho, r⟩ := hg; ⟨o, nm, qn, hc.heap a o haw ho, r⟩, (let ⟨mc, hns, hnn⟩ := hl; ⟨mc, hns.at' fun o e => hc.heap cStatics o hcw e, hnn⟩), gs', setGen_self hg1, fun s'' hal => ?_⟩
      ⟨fun b o hb e => hc.heap b o hb e, fromG_step hgs hc.gens hb, hc.drawn, hc.os, htk⟩ hJ
    have e : n₀ - (j + 1) = m := by (first | lia | omega)
    rw [e]
    exact hkap s'' hal
  · exact absurd hp.1 (Nat.succ_ne_zero m)
theorem doneJ {ex fp : List Addr} {n₀ : Nat} {F : Nat → Value → Prop} {J : Heap → Prop} {a : Addr} {g : Nat} {s : Shared} {Q : Option Value → Shared → Prop} {E : Value → Shared → Prop} (hh : A.handled = none)
    (hroom : A.depth < recursionLimit) (hJk : ∀ h h' : Heap, J h → Keep h h' → J h') (st : AtJ prog w A a g ex fp n₀ F J n₀ s)
    (hQ : ∀ s', Moved ex (FromG g) s s' → J s'.heap → Q none s') : wpAny (model prog w) A (pyNext (.ref a)) Q E s := by
  obtain ⟨hg, hl, gs, hgs, hgo⟩ := st
  rw [Nat.sub_self] at hgo
  refine wpAny_with_toks (Nat.le_refl s.toks) ?_
  refine wpAny_pyNext_genexpQ (P := endJ ex J) hh hl hroom hg hgs (hgo _ fun _ _ _ e => e) (fun v s₁ gs' hb hv => ?_) (fun s₁ hp h' hk => ?_)
  · obtain ⟨_, _, _, hkap⟩ := hv
    exact False.elim (hkap s₁ fun _ _ _ e => e)
  · obtain ⟨_, hc, hJ⟩ := hp
    intro htk
    exact hQ _ ⟨fun b o hb e => hk b o (hc.heap b o hb e), fromG_step hgs hc.gens rfl, hc.drawn, hc.os, htk⟩ (hJk _ _ hJ hk)

theorem fromG_trans {g : Nat} {a b c : Array GenState} (x : FromG g a b) (y : FromG g b c) : FromG g a c := ⟨Nat.le_trans x.size y.size, fun k hk => (y.old k hk).trans (x.old k hk), fun h => y.bare (x.bare h)⟩
theorem moved_trans {ex : List Addr} {g : Nat} {a b c : Shared} (x : Moved ex (FromG g) a b) (y : Moved ex (FromG g) b c) : Moved ex (FromG g) a c :=
  ⟨fun d o h e => y.heap d o h (x.heap d o h e), fromG_trans x.gens y.gens, y.drawn.trans x.drawn, y.os.trans x.os, Nat.le_trans x.toks y.toks⟩

section
variable {ex fp : List Addr} {n : Nat} {Fv : Nat → Value → Prop} {J : Heap → Prop} {a : Addr} {g : Nat} {R : Result → Shared → Prop}
theorem all_loopJ (hh : A.handled = none) (haf : a ∉ fp) (hsub : ∀ b ∈ ex, b ∈ fp) (hroom : A.depth < recursionLimit) (hcw : cStatics ∉ ex) (hJk : ∀ h h' : Heap, J h → Keep h h' → J h') (tr : Nat → Bool) (htr : TruthOf prog w A.in1 Fv tr) :
    ∀ (k i : Nat) (s : Shared), n - i = k → i ≤ n → AtJ prog w A.in1 a g ex fp n Fv J i s →
    (∀ s', Moved ex (FromG g) s s' → J s'.heap → R (.ok (.ret (.bool (((List.range n).drop i).all tr)))) s') → codeAny (model prog w) A (.builtin "all.loop" ⟨[.ref a], []⟩) R s := by
  intro k
  induction k with
  | zero =>
    intro i s hk hi hst hR
    have hin : i = n := by (first | lia | omega)
    subst hin
    refine codeAny_builtin F.entry_all_loop ?_
    rw [Around.under_plainId F.plain_all_loop _]
    show wpAny _ A.in1 (pyNext (.ref a) >>= _) _ _ s
    refine wpAny_bind (doneJ (A := A.in1) hh hroom hJk hst fun s' hm hJ => ?_)
    refine wpAny_bind (wpAny_rule (wpAny_pure ?_))
    have := hR s' hm hJ
    rw [List.drop_of_length_le (by simp)] at this
    exact this
  | succ k ih =>
    intro i s hk hi hst hR
    have hlt : i < n := by (first | lia | omega)
    have hd : (List.range n).drop i = i :: (List.range n).drop (i + 1) := by
      rw [List.drop_eq_getElem_cons (by simpa using hlt)]; simp
    refine codeAny_builtin F.entry_all_loop ?_
    rw [Around.under_plainId F.plain_all_loop _]
    show wpAny _ A.in1 (pyNext (.ref a) >>= _) _ _ s
    refine wpAny_bind (itemJ (A := A.in1) hh haf hsub hroom hcw hlt hst fun v s' hP hst' hm hJ => ?_)
    refine wpAny_bind (wpAny_holding (htr i v _ _ _ hP ?_))
    refine wpAny_bind (wpAny_letGo ?_)
    cases hb : tr i with
    | true =>
      simp only [if_true]
      refine wpAny_pure ⟨plainId_quiet F.plain_all_loop _, ih (i + 1) _ (by (first | lia | omega)) hlt hst' fun s'' hm' hJ' => ?_⟩
      have := hR s'' (moved_trans hm hm') hJ'
      rw [hd, List.all_cons, hb, Bool.true_and] at this
      exact this
    | false =>
      simp only [Bool.false_eq_true, if_false]
      refine wpAny_bind (wpAny_rule (wpAny_pure ?_))
      have := hR s' hm hJ
      rw [hd, List.all_cons, hb, Bool.false_and] at this
      exact this
theorem any_loopJ (hh : A.handled = none) (haf : a ∉ fp) (hsub : ∀ b ∈ ex, b ∈ fp) (hroom : A.depth < recursionLimit) (hcw : cStatics ∉ ex) (hJk : ∀ h h' : Heap, J h → Keep h h' → J h') (tr : Nat → Bool) (htr : TruthOf prog w A.in1 Fv tr) :
    ∀ (k i : Nat) (s : Shared), n - i = k → i ≤ n → AtJ prog w A.in1 a g ex fp n Fv J i s →
    (∀ s', Moved ex (FromG g) s s' → R (.ok (.ret (.bool (((List.range n).drop i).any tr)))) s') → codeAny (model prog w) A (.builtin "any.loop" ⟨[.ref a], []⟩) R s := by
  intro k
  induction k with
  | zero =>
    intro i s hk hi hst hR
    have hin : i = n := by (first | lia | omega)
    subst hin
    refine codeAny_builtin F.entry_any_loop ?_
    rw [Around.under_plainId F.plain_any_loop _]
    show wpAny _ A.in1 (pyNext (.ref a) >>= _) _ _ s
    refine wpAny_bind (doneJ (A := A.in1) hh hroom hJk hst fun s' hm _ => ?_)
    refine wpAny_bind (wpAny_rule (wpAny_pure ?_))
    have := hR s' hm
    rw [List.drop_of_length_le (by simp)] at this
    exact this
  | succ k ih =>
    intro i s hk hi hst hR
    have hlt : i < n := by (first | lia | omega)
    have hd : (List.range n).drop i = i :: (List.range n).drop (i + 1) := by
      rw [List.drop_eq_getElem_cons (by simpa using hlt)]; simp
    refine codeAny_builtin F.entry_any_loop ?_
    rw [Around.under_plainId F.plain_any_loop _]
    show wpAny _ A.in1 (pyNext (.ref a) >>= _) _ _ s
    refine wpAny_bind (itemJ (A := A.in1) hh haf hsub hroom hcw hlt hst fun v s' hP hst' hm _ => ?_)
    refine wpAny_bind (wpAny_holding (htr i v _ _ _ hP ?_))
    refine wpAny_bind (wpAny_letGo ?_)
    cases hb : tr i with
    | false =>
      simp only [Bool.false_eq_true, if_false]
      refine wpAny_pure ⟨plainId_quiet F.plain_any_loop _, ih (i + 1) _ (by (first | lia | omega)) hlt hst' fun s'' hm' => ?_⟩
      have := hR s'' (moved_trans hm hm')
      rw [hd, List.any_cons, hb, Bool.false_or] at this
      exact this
    | true =>
      simp only [if_true]
      refine wpAny_bind (wpAny_rule (wpAny_pure ?_))
      have := hR s' hm
      rw [hd, List.any_cons, hb, Bool.true_or] at this
      exact this
theorem call_anyJ {s : Shared} {Q : Value → Shared → Prop} {E : Value → Shared → Prop} (hh : A.handled = none) (haf : a ∉ fp) (hsub : ∀ b ∈ ex, b ∈ fp) (hroom : A.depth < recursionLimit) (hcw : cStatics ∉ ex) (hJk : ∀ h h' : Heap, J h → Keep h h' → J h') (tr : Nat → Bool) (htr : TruthOf prog w A.in1 Fv tr)
    (st : AtJ prog w A.in1 a g ex fp n Fv J 0 s) (hQ : ∀ s', Moved ex (FromG g) s s' → Q (.bool ((List.range n).any tr)) s') :
    wpAny (model prog w) A (call (.builtin "any") [.ref a]) Q E s := by
  refine call_function_tree F.kind_any F.plain_any F.entry_any (F.args_any1 _) ?_
  unfold Builtin.«any»
  refine wpAny_bind (m := oneArg "any" _) (wpAny_pure ?_)
  refine wpAny_bind (wpAny_pyIter_gen st.1 ?_)
  exact wpAny_pure ⟨plainId_quiet F.plain_any_loop _, any_loopJ hh haf hsub hroom hcw hJk tr htr n 0 s rfl (Nat.zero_le _) st fun s' hm => by simpa using hQ s' hm⟩
theorem call_allJ {s : Shared} {Q : Value → Shared → Prop} {E : Value → Shared → Prop} (hh : A.handled = none) (haf : a ∉ fp) (hsub : ∀ b ∈ ex, b ∈ fp) (hroom : A.depth < recursionLimit) (hcw : cStatics ∉ ex) (hJk : ∀ h h' : Heap, J h → Keep h h' → J h') (tr : Nat → Bool) (htr : TruthOf prog w A.in1 Fv tr)
    (st : AtJ prog w A.in1 a g ex fp n Fv J 0 s) (hQ : ∀ s', Moved ex (FromG g) s s' → J s'.heap → Q (.bool ((List.range n).all tr)) s') :
    wpAny (model prog w) A (call (.builtin "all") [.ref a]) Q E s := by
  refine call_function_tree F.kind_all F.plain_all F.entry_all (F.args_all1 _) ?_
  unfold Builtin.«all»
  refine wpAny_bind (m := oneArg "all" _) (wpAny_pure ?_)
  refine wpAny_bind (wpAny_pyIter_gen st.1 ?_)
  exact wpAny_pure ⟨plainId_quiet F.plain_all_loop _, all_loopJ hh haf hsub hroom hcw hJk tr htr n 0 s rfl (Nat.zero_le _) st fun s' hm hJ => by simpa using hQ s' hm hJ⟩
end


theorem atJ_fresh {elt iter : Expr} {x : Str} {px : Pos} {scope : Scope} {pos : Pos} {I a : Addr} {g : Nat} {fp₀ wr₀ fj we : List Addr} {n₀ : Nat} {P F : Nat → Value → Prop} {St₀ : Nat → Heap → Prop} {J : Heap → Prop} {cenv : Env}
    (hh : A.handled = none) (W₀ : ∀ A' : Around, A'.handled = none → Walks prog w A' I fp₀ wr₀ n₀ P St₀) (L : LieN cenv.locals fp₀ wr₀ fj we J)
    (hx : cenv.kindOf x = some .local) (hp : (cenv.scope.kind == .class || (cenv.scope.kind == .module && cenv.locals != cenv.globals)) = false)
    (hco : cenv.scope.isCoroutine = false) {s : Shared} {m : Str → Option Value} (hel : EltN prog w cenv x elt we n₀ P F J (A.depth + 1) (A.units + 4))
    (hg : s.heap.IsGen a g) (hgs : s.gens[g]? = some (.fresh (.compStart (.GeneratorExp elt [⟨.Name x px, iter, [], 0⟩] scope pos) 0 (.ref I) .none cenv)))
    (hst : St₀ 0 s.heap) (hn : s.heap.Ns cenv.locals m) (hl : s.heap.NoLimit) (hj : J s.heap) : AtJ prog w A a g (exN cenv.locals wr₀ we) (fpN cenv.locals fp₀ fj) n₀ F J 0 s :=
  ⟨hg, hl, _, hgs, fun s'' hal => ⟨rfl, seg_startJ (A := A.in1) hh W₀ L hx hp hco hel s'' m ((W₀ A hh).frame _ _ _ hst fun b hb o e => hal b (List.mem_cons_of_mem _ (List.mem_append_left _ hb)) o e)
    (hn.at' fun o e => hal _ (List.mem_cons_self ..) o e) (L.st _ _ hj fun b hb o e => hal b (List.mem_cons_of_mem _ (List.mem_append_right _ hb)) o e)⟩⟩
end
end Mine
namespace Mine
open PySem PySem.W PySem.Calls PyProof.Rows

theorem keep_frame {h h' : Heap} {o : Obj} (hs : Heap.SameBut h.objs.size (h.push o) h') : Keep h h' := fun b ob e =>
  hs.extBut b ob (Nat.ne_of_lt (Heap.lt_size e)) (Heap.get?_push_of_some _ e)

section
variable {prog : Program} {w : World} {A : Around} {E : Value → Shared → Prop} {s : Shared} {K : Frag} {p : Program} {loose : List Str} {mg mb : Str → Option Value} {env : Env}

/-- a generator expression over a list: where it stands when it has been made -/
theorem gen_made {elt iter : Expr} {x : Str} {px : Pos} {scope : Scope} {cl : List (Str × Addr)} {pos : Pos} {b : Addr} {items : Array Value} {bm : Addr} {ob : Obj} {Q : Value → Shared → Prop}
    (hco : scope.isCoroutine = false) (hclos : closureFor scope env = pure cl) (hcell : ∀ y ∈ scope.names, y.2 ≠ .cell) (h0 : scope.names.lookup (".0" : Str) = some NameKind.local) (hkind : scope.kind = .function) (hroom : A.depth < recursionLimit)
    (hs : ∀ v, genFold iter env v = pure v) (hg : env.globals = mainGlobals) (nl : s.heap.NoLimit) (B : BMod s.heap mainGlobals mg bm ob) (hl : s.heap.IsList b items)
    (hit : ∀ (Q : Value → Shared → Prop), Q (.ref b) s → wpAny (model prog w) A (eval iter env) Q E s)
    (h : wpAny (model prog w) A (genexprCode env pos (env.qual ++ "<genexpr>") scope) (fun code s₃ => KeepT (s.heap.push { cls := .type "list_iterator", data := .fields #[.ref b, .int 0 0] }) s₃.heap ∧ s₃.gens = s.gens ∧
      ∀ C a s₄, C = s₃.heap.objs.size → a = s₃.heap.objs.size + 1 → Keep s₃.heap s₄.heap → s₄.heap.objs.size = s₃.heap.objs.size + 2 → (∃ m, s₄.heap.Ns C m) → s₄.heap.IsGen a s₃.gens.size → s₄.drawn = s₃.drawn → s₄.os = s₃.os →
        s₄.gens = s₃.gens.push (.fresh (.compStart (.GeneratorExp elt [⟨.Name x px, iter, [], 0⟩] scope pos) 0 (.ref s.heap.objs.size) .none (genEnv scope cl C code builtinsNs env))) → Q (.ref a) s₄) E
      { s with heap := s.heap.push { cls := .type "list_iterator", data := .fields #[.ref b, .int 0 0] } }) :
    wpAny (model prog w) A (eval (.GeneratorExp elt [⟨.Name x px, iter, [], 0⟩] scope pos) env) Q E s := by
  refine wpAny_GeneratorExp_make hco hclos hcell h0 hkind hroom ?_ hs
  refine hit _ ?_
  refine wpAny_pyIter_list hl ?_
  have k1 : Keep s.heap (s.heap.push { cls := .type "list_iterator", data := .fields #[.ref b, .int 0 0] }) := fun c o e => Heap.get?_push_of_some _ e
  refine ⟨(let ⟨mc, a, r⟩ := nl; ⟨mc, a.keeps k1, r⟩), ?_⟩
  refine wpAny_mono h (fun code s₃ h₃ => ?_) fun _ _ e => e
  obtain ⟨kt, hgn, h₃⟩ := h₃
  have B₃ := kt.bmod (B.keeps k1)
  rw [hg]
  refine wpAny_builtinsFor B₃.ns B₃.name B₃.ne B₃.obj B₃.cls B₃.dict B₃.data ?_
  intro h' hn hsb
  have hz : h'.objs.size = s₃.heap.objs.size + 1 := by rw [hsb.1, Heap.size_push]
  have kf : Keep s₃.heap h' := keep_frame hsb
  have eg : ∀ o : Obj, o.isFreed = false → (h'.push o).get? (s₃.heap.objs.size + 1) = some o := fun o ho => by rw [← hz]; exact Heap.get?_push_size _ ho
  rw [hz]
  refine h₃ _ _ _ rfl rfl (fun c o e => Heap.get?_push_of_some _ (kf c o e)) ?_ ⟨_, hn.push _⟩ ⟨_, _, _, eg _ rfl, rfl, rfl, rfl⟩ rfl rfl rfl
  show (h'.push _).objs.size = _
  rw [Heap.size_push, hz]
end
end Mine
namespace Mine
open PySem PySem.W PySem.Calls PyProof.Rows
section
variable {M : Model} {A : Around} {E : Value → Shared → Prop} {s : Shared} {env : Env}
/-- the code of a generator expression, wherever it may lie already -/
theorem code_any {pos : Pos} {c P : Addr} {qual : Str} {scope : Scope} {Q : Value → Shared → Prop} (hc : env.code = .ref c) (T : TabC s.heap c P)
    (h : ∀ code h' tk, (∀ b o, b ≠ P → s.heap.get? b = some o → h'.get? b = some o) → TabC h' c P → Q code { s with heap := h', toks := tk }) :
    wpAny M A (genexprCode env pos qual scope) Q E s := by
  obtain ⟨a, ps, e, t⟩ := T
  cases hf : codeAmong pos ps.toList with
  | some cv => exact wpAny_genexprCode_hit hc (a.code e t) hf (h cv s.heap s.toks (fun _ _ _ e => e) ⟨a, ps, e, t⟩)
  | none =>
    refine wpAny_genexprCodeX hc (a.code e t) (a.tab e) hf (fun c' h' tk hx l1 l2 hcode hrec htab htab' => ?_)
    have hP : h'.get? P = some (tabObj (ps ++ #[rawInt pos.line, rawInt pos.col, .ref c'])) := htab.2
    have tr : TriplesOk (ps ++ #[rawInt pos.line, rawInt pos.col, .ref c']).toList := by
      rw [Array.toList_append]; exact TriplesOk_snoc _ _ _ _ t
    exact h _ h' tk (fun b o hb eb => hx b o hb eb) ⟨CodeHd.of hcode htab, _, hP, tr⟩
end

section
variable {prog : Program} {w : World} {A : Around} {E : Value → Shared → Prop} {s : Shared} {K : Frag} {p : Program} {loose : List Str} {mg mb : Str → Option Value} {env : Env}

theorem more_push {a b : Array GenState} {x : GenState} (hx : x.bare = true) (h : FromG a.size (a.push x) b) : MoreGens a b := by
  have h1 := h.size
  rw [Array.size_push] at h1
  refine ⟨by (first | lia | omega), fun k hk => ?_, fun k y hk e => ?_⟩
  · rw [h.old k hk, Array.getElem?_push_lt hk, Array.getElem?_eq_getElem hk]
  · refine h.bare (fun k y hk e => ?_) k y hk e
    by_cases q : k = a.size
    · subst q; rw [Array.getElem?_push_size] at e; cases e; exact hx
    · rw [Array.getElem?_eq_none (by rw [Array.size_push]; (first | lia | omega))] at e; cases e

theorem range_any (f : Int → Bool) (cl : List Int) : (List.range cl.length).any (fun i => f (cl.getD i 0)) = cl.any f := by
  rw [Bool.eq_iff_iff, List.any_eq_true, List.any_eq_true]
  constructor
  · rintro ⟨i, hi, h⟩
    have hlt := List.mem_range.mp hi
    refine ⟨cl[i], List.getElem_mem hlt, ?_⟩
    rw [List.getD_eq_getElem?_getD, List.getElem?_eq_getElem hlt] at h; exact h
  · rintro ⟨l, hl, h⟩
    obtain ⟨i, hi, rfl⟩ := List.getElem_of_mem hl
    refine ⟨i, List.mem_range.mpr hi, ?_⟩
    rw [List.getD_eq_getElem?_getD, List.getElem?_eq_getElem hi]; exact h
theorem range_all {α : Type} (f : α → Bool) (d : α) (cl : List α) : (List.range cl.length).all (fun i => f (cl.getD i d)) = cl.all f := by
  rw [Bool.eq_iff_iff, List.all_eq_true, List.all_eq_true]
  constructor
  · intro h l hl
    obtain ⟨i, hi, rfl⟩ := List.getElem_of_mem hl
    have := h i (List.mem_range.mpr hi)
    rw [List.getD_eq_getElem?_getD, List.getElem?_eq_getElem hi] at this; exact this
  · intro h i hi
    have hlt := List.mem_range.mp hi
    have := h cl[i] (List.getElem_mem hlt)
    rw [List.getD_eq_getElem?_getD, List.getElem?_eq_getElem hlt]; exact this

theorem any_ok {xl xc tn : Str} {q₁ q₂ q₃ q₄ q₅ q₆ q₇ pos : Pos} {sc : Scope} {c' P' ct dt b bm : Addr} {ob : Obj} {m : Str → Option Value} {its tv : List Value} {cl ts : List Int} {Q : Value → Shared → Prop}
    (hg : env.globals = mainGlobals) (hb : env.builtins = builtinsNs) (hk : env.scope.kind = .function) (hc : env.code = .ref c') (kany : env.kindOf "any" = some .globalImplicit) (kxc : env.kindOf xc = some .local) (dxc : (xc == ("__debug__" : Str)) = false)
    (hco : sc.isCoroutine = false) (hclos : closureFor sc env = pure [(tn, ct)]) (hcell : ∀ y ∈ sc.names, y.2 ≠ .cell) (h0 : sc.names.lookup (".0" : Str) = some NameKind.local) (hkind : sc.kind = .function)
    (lx : sc.names.lookup xl = some .local) (lt : sc.names.lookup tn = some .free) (dxl : (xl == ("__debug__" : Str)) = false) (dtn : (tn == ("__debug__" : Str)) = false) (dtn' : (tn == ("__classdict__" : Str)) = false)
    (hbm : behindInMarks .In (.Name tn q₃) = false)
    (G : Gd K p loose mg mb s.heap) (hany : nsIn K mainGlobals "any" = some none) (B : BMod s.heap mainGlobals mg bm ob) (T : TabC s.heap c' P')
    (hn : s.heap.Ns env.locals m) (hm : m xc = some (.ref b)) (hl : s.heap.IsList b its.toArray) (hi : IntsAre its cl) (hct : s.heap.IsCell ct (some (.ref dt))) (hdt : s.heap.IsList dt tv.toArray) (htv : IntsAre tv ts)
    (hh : A.handled = none) (hroom : A.depth < recursionLimit)
    (ret : ∀ s', Calm [P'] s s' → TabC s'.heap c' P' → Q (.bool (cl.any fun l => ts.any (· == l))) s') :
    wpAny (model prog w) A (eval (.Call (.Name "any" q₁) [.GeneratorExp (.Compare (.Name xl q₂) [.In] [.Name tn q₃] q₄) [⟨.Name xl q₅, .Name xc q₆, [], 0⟩] sc pos] [] q₇) env) Q E s := by
  refine Call_ ?_ rfl
  refine e_boot G (v := .builtin "any") (by boot_fast) hany (by decide) ?_ hg hb hk kany (by decide)
  refine callWith_builtin1 ?_ rfl rfl
  refine args_cons ?_ rfl
  refine gen_made hco hclos hcell h0 hkind hroom (fun _ => rfl) hg G.t.nolimit B hl (fun Q hQ => e_local hn hm hQ hk kxc dxc) ?_
  have k1 : Keep s.heap (s.heap.push { cls := .type "list_iterator", data := .fields #[.ref b, .int 0 0] }) := fun c o e => Heap.get?_push_of_some _ e
  have eI : (s.heap.push { cls := .type "list_iterator", data := .fields #[.ref b, .int 0 0] }).get? s.heap.objs.size = some { cls := .type "list_iterator", data := .fields #[.ref b, .int 0 0] } := Heap.get?_push_size _ rfl
  have lP : P' < s.heap.objs.size := T.lt
  have lc : c' < s.heap.objs.size := hdLt T.1
  have T₁ := T.keep k1
  refine code_any hc T₁ (fun code h' tk hx T' => ?_)
  have kt : KeepT (s.heap.push { cls := .type "list_iterator", data := .fields #[.ref b, .int 0 0] }) h' := let ⟨_, _, e, _⟩ := T₁; KeepT.but e hx
  refine ⟨kt, rfl, fun C a s₄ eC ea k₄ hz hN hgen hdr hos hgens => ?_⟩
  refine args_nil ?_
  obtain ⟨mN, hN⟩ := hN
  have lb : b < s.heap.objs.size := list_lt hl
  have lct : ct < s.heap.objs.size := let ⟨_, e, _⟩ := hct; Heap.lt_size e
  have ldt : dt < s.heap.objs.size := list_lt hdt
  have lst : cStatics < s.heap.objs.size := let ⟨_, a, _⟩ := G.t.nolimit; a.lt
  have up : ∀ {d : Addr} {o : Obj}, d ≠ P' → s.heap.get? d = some o → s₄.heap.get? d = some o := fun hd e => k₄ _ _ (hx _ _ hd (k1 _ _ e))
  have kts : KeepT s.heap s₄.heap := (KeepT.of k1).trans (kt.trans (KeepT.of k₄))
  have eI₄ : s₄.heap.get? s.heap.objs.size = some { cls := .type "list_iterator", data := .fields #[.ref b, .int 0 0] } := k₄ _ _ (hx _ _ (Nat.ne_of_gt lP) eI)
  have lI : s.heap.objs.size < C := by rw [eC]; exact Heap.lt_size (hx _ _ (Nat.ne_of_gt lP) eI)
  have T₄ : TabC s₄.heap c' P' := T'.keep k₄
  have hnl : s₄.heap.NoLimit := let ⟨mc, a, r⟩ := G.t.nolimit; ⟨mc, kts.ns a, r⟩
  have exC : ∀ {d : Addr}, d < s.heap.objs.size → d ∉ exN C [s.heap.objs.size] [] := fun {d} hd => by
    simp only [List.cons_append, List.nil_append, List.mem_cons, List.not_mem_nil, or_false, not_or]
    exact ⟨Nat.ne_of_lt (Nat.lt_trans hd lI), Nat.ne_of_lt hd⟩
  have LN : LieN C [s.heap.objs.size, b] [s.heap.objs.size] [cStatics, ct, dt] [] (fun h => h.IsCell ct (some (.ref dt)) ∧ h.IsList dt tv.toArray) := by
    refine ⟨?_, ?_, ?_, (fun _ h => nomatch h), (fun _ h => nomatch h), ?_⟩
    · simp only [List.mem_cons, List.not_mem_nil, or_false, not_or]
      exact ⟨Nat.ne_of_gt lI, Nat.ne_of_gt (Nat.lt_trans lb lI)⟩
    · simp only [List.mem_cons, List.not_mem_nil, or_false, not_or]
      exact ⟨Nat.ne_of_gt (Nat.lt_trans lst lI), Nat.ne_of_gt (Nat.lt_trans lct lI), Nat.ne_of_gt (Nat.lt_trans ldt lI)⟩
    · intro d hd
      simp only [List.mem_cons, List.not_mem_nil, or_false] at hd ⊢
      rcases hd with q | q | q <;> rw [q]
      · exact Nat.ne_of_lt lst
      · exact Nat.ne_of_lt lct
      · exact Nat.ne_of_lt ldt
    · rintro h₁ h₂ ⟨⟨o, e, hd⟩, hl'⟩ hk'
      exact ⟨⟨o, hk' ct (by simp) o e, hd⟩, hl'.at fun o e => hk' dt (by simp) o e⟩
  have hel : EltN prog w (genEnv sc [(tn, ct)] C code builtinsNs env) xl (.Compare (.Name xl q₂) [.In] [.Name tn q₃] q₄) [] its.toArray.size (fun i v => its.toArray[i]? = some v) (fun i y => y = .bool (ts.any (· == cl.getD i 0)))
      (fun h => h.IsCell ct (some (.ref dt)) ∧ h.IsList dt tv.toArray) (A.in1.depth + 1) (A.in1.units + 4) := by
    rintro A' E' i v s₂ m₂ hA _ _ hi' hv hn₂ hm₂ ⟨j1, j2⟩
    have hv' : its[i]? = some v := by simpa using hv
    have hlt : i < cl.length := by rw [← hi.length]; exact (List.getElem?_eq_some_iff.mp hv').1
    obtain ⟨tt, ht⟩ := hi.get i cl[i] (by simp [hlt])
    rw [ht] at hv'; cases hv'
    refine wpAny_Compare1 ?_ hbm
    refine e_local hn₂ hm₂ ?_ hkind lx dxl
    refine e_free (c := ct) (by simp [genEnv]) j1 ?_ hkind lt dtn dtn'
    refine in_list_ints j2 htv ?_
    refine ⟨?_, Calm.refl _ _, j1, j2⟩
    show Value.bool _ = Value.bool _
    rw [List.getD_eq_getElem?_getD, List.getElem?_eq_getElem hlt]; rfl
  have hsz : its.toArray.size = cl.length := by simp [hi.length]
  have hat := atJ_fresh (A := A.in1) (a := a) (g := s.gens.size) (px := q₅) (iter := .Name xc q₆) (scope := sc) (pos := pos) (s := s₄) (m := mN) (elt := .Compare (.Name xl q₂) [.In] [.Name tn q₃] q₄)
    (St₀ := fun i h => h.IsListIter s.heap.objs.size b i ∧ h.IsList b its.toArray) (cenv := genEnv sc [(tn, ct)] C code builtinsNs env) hh (fun A' hA => Walks.list hA s.heap.objs.size b (Nat.ne_of_lt lb) its.toArray) LN lx
    (by show (sc.kind == .class || (sc.kind == .module && _)) = false; rw [hkind]; rfl) hco hel hgen (by rw [hgens]; exact Array.getElem?_push_size) ⟨⟨_, eI₄, rfl, rfl⟩, kts.list hl⟩ hN hnl ⟨kts.cell hct, kts.list hdt⟩
  refine call_anyJ (A := A) (a := a) (g := s.gens.size) hh ?_ ?_ hroom (exC lst) (fun h₁ h₂ hJ hk => ⟨let ⟨o, e, hd⟩ := hJ.1; ⟨o, hk _ _ e, hd⟩, stays_list hk hJ.2⟩) (fun i => ts.any (· == cl.getD i 0)) ?_ hat (fun s' mv => ?_)
  · simp only [List.cons_append, List.nil_append, List.mem_cons, List.not_mem_nil, or_false, not_or]
    have la : C < a := by rw [ea, eC]; exact Nat.lt_succ_self _
    exact ⟨Nat.ne_of_gt la, Nat.ne_of_gt (Nat.lt_trans lI la), Nat.ne_of_gt (Nat.lt_trans (Nat.lt_trans lb lI) la), Nat.ne_of_gt (Nat.lt_trans (Nat.lt_trans lst lI) la), Nat.ne_of_gt (Nat.lt_trans (Nat.lt_trans lct lI) la), Nat.ne_of_gt (Nat.lt_trans (Nat.lt_trans ldt lI) la)⟩
  · intro d hd
    simp only [List.cons_append, List.nil_append, List.mem_cons, List.not_mem_nil, or_false] at hd ⊢
    rcases hd with q | q
    · exact .inl q
    · exact .inr (.inl q)
  · intro i v s₅ Q₅ E₅ hP hQ
    rw [hP]
    exact wpAny_truthy_bool hQ
  · rw [hsz, range_any (fun l => ts.any (· == l)) cl]
    have lP' : P' < s.heap.objs.size := lP
    refine ret s' ⟨fun d o hd e => ?_, ?_, ?_, ?_⟩ ?_
    · exact mv.heap d o (exC (Heap.lt_size e)) (up (fun q => hd (by simp [q])) e)
    · have hG := mv.gens
      rw [hgens] at hG
      exact more_push rfl hG
    · rw [mv.drawn, hdr]
    · rw [mv.os, hos]
    · exact T₄.move fun b o hb e => mv.heap b o (exC (by rcases hb with q | q <;> rw [q] <;> first | exact lc | exact lP)) e
end
end Mine
namespace Mine
open PySem PySem.W PySem.Calls PyProof.Rows
section
variable {prog : Program} {w : World} {A : Around} {E : Value → Shared → Prop} {s : Shared} {K : Frag} {p : Program} {loose : List Str} {mg mb : Str → Option Value} {env : Env}

/-- «all(any(l in ts for l in c) for c in cs)» -/
theorem nest_ok {xl xc tn xs : Str} {q₁ q₂ q₃ q₄ q₅ q₆ q₇ pos₂ r₁ r₂ r₃ r₄ pos₁ : Pos} {sc₁ sc₂ : Scope} {Av : Addr → Prop} {c₀ P₀ ct dt a bm : Addr} {ob : Obj} {vs tv : List Value} {css : List (List Int)} {ts : List Int} {Q : Value → Shared → Prop}
    (hg : env.globals = mainGlobals) (hc : env.code = .ref c₀) (hall : ∀ Q : Value → Shared → Prop, Q (.builtin "all") s → wpAny (model prog w) A (eval (.Name "all" r₁) env) Q E s)
    (hxs : ∀ Q : Value → Shared → Prop, Q (.ref a) s → wpAny (model prog w) A (eval (.Name xs r₃) env) Q E s)
    (hco₁ : sc₁.isCoroutine = false) (hclos₁ : closureFor sc₁ env = pure [(tn, ct)]) (hcell₁ : ∀ y ∈ sc₁.names, y.2 ≠ .cell) (h0₁ : sc₁.names.lookup (".0" : Str) = some NameKind.local) (hkind₁ : sc₁.kind = .function)
    (lc : sc₁.names.lookup xc = some .local) (lany : sc₁.names.lookup ("any" : Str) = some .globalImplicit) (dxc : (xc == ("__debug__" : Str)) = false)
    (hco₂ : sc₂.isCoroutine = false) (hclos₂ : ∀ C code, closureFor sc₂ (genEnv sc₁ [(tn, ct)] C code builtinsNs env) = pure [(tn, ct)]) (hcell₂ : ∀ y ∈ sc₂.names, y.2 ≠ .cell) (h0₂ : sc₂.names.lookup (".0" : Str) = some NameKind.local) (hkind₂ : sc₂.kind = .function)
    (lx : sc₂.names.lookup xl = some .local) (lt : sc₂.names.lookup tn = some .free) (dxl : (xl == ("__debug__" : Str)) = false) (dtn : (tn == ("__debug__" : Str)) = false) (dtn' : (tn == ("__classdict__" : Str)) = false)
    (hbm : behindInMarks .In (.Name tn q₃) = false) (hK : noTabs K = true)
    (G : Gd K p loose mg mb s.heap) (hany : nsIn K mainGlobals "any" = some none) (B : BMod s.heap mainGlobals mg bm ob) (hzs : ∀ x, @LE.le Nat _ s.heap.objs.size x → Av x) (H : HInv Av pos₁ c₀ P₀ s.heap)
    (hl : s.heap.IsList a vs.toArray) (hp : Paired (IsI s.heap) vs css) (hct : s.heap.IsCell ct (some (.ref dt))) (hdt : s.heap.IsList dt tv.toArray) (htv : IntsAre tv ts)
    (hh : A.handled = none) (hroom : A.depth + 1 < recursionLimit)
    (ret : ∀ s', KeepT s.heap s'.heap → (∀ b o, ¬ Av b → b ≠ P₀ → s.heap.get? b = some o → s'.heap.get? b = some o) → MoreGens s.gens s'.gens → s'.drawn = s.drawn → s'.os = s.os → HInv Av pos₁ c₀ P₀ s'.heap → Q (.bool (css.all fun c => c.any fun l => ts.any (· == l))) s') :
    wpAny (model prog w) A (eval (.Call (.Name "all" r₁) [.GeneratorExp (.Call (.Name "any" q₁) [.GeneratorExp (.Compare (.Name xl q₂) [.In] [.Name tn q₃] q₄) [⟨.Name xl q₅, .Name xc q₆, [], 0⟩] sc₂ pos₂] [] q₇) [⟨.Name xc r₂, .Name xs r₃, [], 0⟩] sc₁ pos₁] [] r₄) env) Q E s := by
  refine Call_ ?_ rfl
  refine hall _ ?_
  refine callWith_builtin1 ?_ rfl rfl
  refine args_cons ?_ rfl
  refine gen_made hco₁ hclos₁ hcell₁ h0₁ hkind₁ (by (first | lia | omega)) (fun _ => rfl) hg G.t.nolimit B hl hxs ?_
  have k1 : Keep s.heap (s.heap.push { cls := .type "list_iterator", data := .fields #[.ref a, .int 0 0] }) := fun c o e => Heap.get?_push_of_some _ e
  have eI : (s.heap.push { cls := .type "list_iterator", data := .fields #[.ref a, .int 0 0] }).get? s.heap.objs.size = some { cls := .type "list_iterator", data := .fields #[.ref a, .int 0 0] } := Heap.get?_push_size _ rfl
  refine code_get hc (fun x hx => hzs x (Nat.le_trans (by rw [Heap.size_push]; exact Nat.le_succ _) hx)) (H.keep k1) (fun c' P' h' tk kt kx H' T' hne hfnd => ?_)
  refine ⟨kt, rfl, fun C a' s₄ eC ea k₄ hz hN hgen hdr hos hgens => ?_⟩
  refine args_nil ?_
  obtain ⟨mN, hN⟩ := hN
  obtain ⟨I, hI⟩ : ∃ I, I = s.heap.objs.size := ⟨_, rfl⟩
  have eI' : h'.get? I = some { cls := .type "list_iterator", data := .fields #[.ref a, .int 0 0] } := by
    rw [hI]; exact kt _ _ eI (tab_cls rfl (by simp))
  have kts : KeepT s.heap h' := (KeepT.of k1).trans kt
  obtain ⟨hdC, psP, eP, tP⟩ := id T'
  obtain ⟨oc, eCd, eCc, _, _⟩ := hdOpen hdC
  have nPI : P' ≠ I := fun q => by rw [q, eI'] at eP; cases eP
  have ncI : c' ≠ I := fun q => by rw [q, eI'] at eCd; cases eCd; exact absurd eCc (by simp)
  have lI : I < C := by rw [eC]; exact Heap.lt_size eI'
  have la : a < I := by rw [hI]; exact list_lt hl
  have nPa : P' ≠ a := fun q => by
    obtain ⟨o, e, hcl, _⟩ := kts.list hl
    rw [q, e] at eP; cases eP; cases hcl
  have lst : cStatics < I := by rw [hI]; exact (let ⟨_, z, _⟩ := G.t.nolimit; z.lt)
  have nst : cStatics ≠ P' := fun q => by
    obtain ⟨_, ⟨o, es, ep, e, hd, _⟩, _⟩ := G.t.nolimit
    have := kts _ _ e (tab_data fun ps q => by rw [hd] at q; cases q)
    rw [q, eP] at this; cases this; cases hd
  let J : Heap → Prop := fun h => (∀ b o, h'.get? b = some o → b ≠ I → b ≠ P' → h.get? b = some o) ∧ TabC h c' P'
  let fj : List Addr := (List.range h'.objs.size).filter (fun b => b != I)
  have inFj : ∀ {b : Addr}, b < h'.objs.size → b ≠ I → b ∈ fj := fun hb hn => List.mem_filter.mpr ⟨List.mem_range.mpr hb, by simpa using hn⟩
  have ofFj : ∀ {b : Addr}, b ∈ fj → b < h'.objs.size ∧ b ≠ I := fun hb => ⟨List.mem_range.mp (List.mem_filter.mp hb).1, by simpa using (List.mem_filter.mp hb).2⟩
  have hJk : ∀ h h₂ : Heap, J h → Keep h h₂ → J h₂ := fun h h₂ hJ hk => ⟨fun b o e n1 n2 => hk _ _ (hJ.1 b o e n1 n2), hJ.2.keep hk⟩
  have KJ : ∀ h : Heap, J h → KeepT s.heap h := fun h hJ b o e hn => by
    have e' := kts b o e hn
    exact hJ.1 b o e' (Nat.ne_of_lt (by rw [hI]; exact Heap.lt_size e)) (fun q => by rw [q, eP] at e'; cases e'; exact hn _ rfl)
  have LN : LieN C [I, a] [I] fj [P'] J := by
    refine ⟨?_, ?_, ?_, ?_, ?_, ?_⟩
    · simp only [List.mem_cons, List.not_mem_nil, or_false, not_or]
      exact ⟨Nat.ne_of_gt lI, Nat.ne_of_gt (Nat.lt_trans la lI)⟩
    · intro q
      have := (ofFj q).1
      rw [eC] at this; exact Nat.lt_irrefl _ this
    · intro b hb q
      exact (ofFj hb).2 (List.mem_singleton.mp q)
    · intro b hb
      rw [List.mem_singleton.mp hb]; exact inFj (Heap.lt_size eP) nPI
    · intro b hb
      rw [List.mem_singleton.mp hb]
      simp only [List.mem_cons, List.not_mem_nil, or_false, not_or]
      exact ⟨nPI, nPa⟩
    · rintro h₁ h₂ ⟨j1, j2⟩ hk
      exact ⟨fun b o e n1 n2 => hk b (inFj (Heap.lt_size e) n1) o (j1 b o e n1 n2), j2.move fun b o hb e => hk b (by rcases hb with q | q <;> rw [q] <;> first | exact inFj (Heap.lt_size eCd) ncI | exact inFj (Heap.lt_size eP) nPI) o e⟩
  have hlen : vs.toArray.size = css.length := by simp [paired_len hp]
  have hel : EltN prog w (genEnv sc₁ [(tn, ct)] C (.ref c') builtinsNs env) xc (.Call (.Name "any" q₁) [.GeneratorExp (.Compare (.Name xl q₂) [.In] [.Name tn q₃] q₄) [⟨.Name xl q₅, .Name xc q₆, [], 0⟩] sc₂ pos₂] [] q₇) [P'] vs.toArray.size
      (fun i v => vs.toArray[i]? = some v) (fun i y => y = .bool ((css.getD i []).any fun l => ts.any (· == l))) J (A.in1.depth + 1) (A.in1.units + 4) := by
    intro A' E' i v s₂ m₂ hA hdep _ hi' hv hn₂ hm₂ hJ
    obtain ⟨c, hcs, b, its, rfl, hbl, hbi⟩ := paired_at hp (show vs[i]? = some v by simpa using hv)
    have kk := KJ _ hJ
    refine any_ok (env := genEnv sc₁ [(tn, ct)] C (.ref c') builtinsNs env) hg rfl hkind₁ rfl lany lc dxc hco₂ (hclos₂ C _) hcell₂ h0₂ hkind₂ lx lt dxl dtn dtn' hbm (G.keepT kk hK) hany (kk.bmod B) hJ.2 hn₂ hm₂ (kk.list hbl) hbi (kk.cell hct) (kk.list hdt) htv hA (Nat.lt_of_le_of_lt hdep hroom) (fun s₃ cm T₃ => ?_)
    refine ⟨?_, cm, fun d o e n1 n2 => cm.heap d o (by simpa using n2) (hJ.1 d o e n1 n2), T₃⟩
    show Value.bool _ = Value.bool _
    rw [List.getD_eq_getElem?_getD, hcs]; rfl
  have J₄ : J s₄.heap := ⟨fun b o e _ _ => k₄ _ _ e, T'.keep k₄⟩
  have hat := atJ_fresh (A := A.in1) (a := a') (g := s.gens.size) (px := r₂) (iter := .Name xs r₃) (scope := sc₁) (pos := pos₁) (s := s₄) (m := mN)
    (St₀ := fun i h => h.IsListIter I a i ∧ h.IsList a vs.toArray) (cenv := genEnv sc₁ [(tn, ct)] C (.ref c') builtinsNs env) hh (fun A' hA => Walks.list hA I a (Nat.ne_of_lt la) vs.toArray) LN lc
    (by show (sc₁.kind == .class || (sc₁.kind == .module && _)) = false; rw [hkind₁]; rfl) hco₁ hel hgen (by rw [hgens, hI]; exact Array.getElem?_push_size) ⟨⟨_, k₄ _ _ eI', rfl, rfl⟩, (KJ _ J₄).list hl⟩ hN (let ⟨mc, z, r⟩ := G.t.nolimit; ⟨mc, (KJ _ J₄).ns z, r⟩) J₄
  have la' : C < a' := by rw [ea, eC]; exact Nat.lt_succ_self _
  refine call_allJ (A := A) (a := a') (g := s.gens.size) hh ?_ ?_ (by (first | lia | omega)) ?_ hJk (fun i => (css.getD i []).any fun l => ts.any (· == l)) ?_ hat (fun s' mv hJ => ?_)
  · simp only [List.cons_append, List.nil_append, List.mem_cons, not_or]
    refine ⟨Nat.ne_of_gt la', Nat.ne_of_gt (Nat.lt_trans lI la'), Nat.ne_of_gt (Nat.lt_trans (Nat.lt_trans la lI) la'), fun q => ?_⟩
    have := (ofFj q).1
    rw [← eC] at this; exact Nat.lt_irrefl _ (Nat.lt_trans this la')
  · intro d hd
    simp only [List.cons_append, List.nil_append, List.mem_cons, List.not_mem_nil, or_false] at hd ⊢
    rcases hd with q | q | q
    · exact .inl q
    · exact .inr (.inl q)
    · exact .inr (.inr (.inr (q ▸ inFj (Heap.lt_size eP) nPI)))
  · simp only [List.cons_append, List.nil_append, List.mem_cons, List.not_mem_nil, or_false, not_or]
    exact ⟨Nat.ne_of_lt (Nat.lt_trans lst lI), Nat.ne_of_lt lst, nst⟩
  · intro i v s₅ Q₅ E₅ hP hQ
    rw [hP]
    exact wpAny_truthy_bool hQ
  · rw [hlen, range_all (fun c : List Int => c.any fun l => ts.any (· == l)) [] css]
    obtain ⟨ps, ePs, hf⟩ := hfnd
    obtain ⟨hd0, ps₂, eP2, t2, _⟩ := H'
    obtain ⟨o₀, e0, r0, _, k0⟩ := hdOpen hd0
    rw [ePs] at eP2; cases eP2
    have nPI0 : P₀ ≠ I := fun q => by rw [q, eI'] at ePs; cases ePs
    have ncI0 : c₀ ≠ I := fun q => by rw [q, eI'] at e0; cases e0; exact absurd r0 (by simp)
    have ncP0 : c₀ ≠ P' := fun q => by rw [q, eP] at e0; cases e0; cases r0
    refine ret s' (KJ _ hJ) (fun b o hb hP e => hJ.1 b o (kx b o hP (k1 _ _ e)) (fun q => hb (hzs _ (by rw [q, hI]; exact Nat.le_refl _))) (fun q => hb (q ▸ hne.2.1))) ?_ ?_ ?_ ⟨k0 _ (hJ.1 _ _ e0 ncI0 ncP0), ps, hJ.1 _ _ ePs nPI0 (Ne.symm hne.1), t2, .inr ⟨c', P', hf, hne, hJ.2⟩⟩
    · have hG := mv.gens
      rw [hgens] at hG
      exact more_push rfl hG
    · rw [mv.drawn, hdr]
    · rw [mv.os, hos]
end
end Mine
namespace Mine
open PySem PySem.W PySem.Calls PyProof.Rows

abbrev llData (css : List (List Int)) : PyData := .list (css.map fun c => .list (c.map PyData.int))
theorem reads_all {h : Heap} {vs : List Value} {css : List (List Int)} (hp : Paired (IsI h) vs css) : ∃ as, ReadsAll h vs (css.map fun c => .list (c.map PyData.int)) as := by
  induction hp with
  | nil => exact ⟨[], .nil⟩
  | cons r t ih =>
    obtain ⟨b, its, rfl, hl, hi⟩ := r
    obtain ⟨as, ih⟩ := ih
    exact ⟨_, .cons (reads_newData hl (ke_carried hi)) ih⟩
theorem reads_ll {h : Heap} {a : Addr} {css : List (List Int)} (x : IsLL h a css) : ∃ as, Reads h (.ref a) (llData css) as := by
  obtain ⟨vs, ⟨o, e, hc, n, hd⟩, hp⟩ := x
  obtain ⟨as, r⟩ := reads_all hp
  exact ⟨_, .list e hc hd (by simpa using r)⟩
theorem eqv_ints : ∀ c : List Int, PyData.eqvAll (c.map PyData.int) (c.map PyData.int) = true := fun c => by rw [ked_eqvAll]; simp
theorem eqv_lls : ∀ css : List (List Int), PyData.eqvAll (css.map fun c => PyData.list (c.map PyData.int)) (css.map fun c => PyData.list (c.map PyData.int)) = true
  | [] => by simp [PyData.eqvAll]
  | c :: r => by simp only [List.map_cons, PyData.eqvAll, PyData.eqv, eqv_ints, eqv_lls r, Bool.and_self]
theorem eqv_ll (css : List (List Int)) : PyData.eqv (llData css) (llData css) = true := by simp only [PyData.eqv, eqv_lls]
theorem canLay_lls : ∀ css : List (List Int), PyData.canLayAll0 (css.map fun c => PyData.list (c.map PyData.int)) = true
  | [] => by simp [PyData.canLayAll0]
  | c :: r => by simp only [List.map_cons, PyData.canLayAll0, PyData.canLay0, ke_canLayAll0, canLay_lls r, Bool.and_self]
theorem depth_lls : ∀ css : List (List Int), PyData.depthAll (css.map fun c => PyData.list (c.map PyData.int)) ≤ 1
  | [] => by simp [PyData.depthAll]
  | c :: r => by
    have := depth_lls r
    simp only [List.map_cons, PyData.depthAll, PyData.depth, ke_depthAll]
    (first | lia | omega)
theorem shaped_ll (css : List (List Int)) : SeqAt.shaped (llData css) = true := by
  have := depth_lls css
  unfold SeqAt.shaped
  rw [Bool.and_eq_true]
  refine ⟨by simp only [PyData.canLay0, canLay_lls], ?_⟩
  refine decide_eq_true ?_
  simp only [PyData.depth]
  (first | lia | omega)
section
variable {prog : Program} {w : World} {A : Around} {E : Value → Shared → Prop} {s : Shared}
/-- two lists of lists of ints that hold the same -/
theorem r_ne_ll {a b : Addr} {css : List (List Int)} {Q : Value → Shared → Prop} (ha : IsLL s.heap a css) (hb : IsLL s.heap b css) (hu : A.units + 64 < cLine) (h : Q (.bool false) s) : wpAny (model prog w) A (compareOp .NotEq (.ref a) (.ref b)) Q E s := by
  obtain ⟨as, ra⟩ := reads_ll ha
  obtain ⟨bs, rb⟩ := reads_ll hb
  refine ne_dataH ra rb (shaped_ll css) (shaped_ll css) hu ?_
  rw [eqv_ll]; exact h
end

/-- all is kept but tables, and below z but the table P -/
structure RelT (z : Nat) (P : Addr) (s s' : Shared) : Prop where
  kt : KeepT s.heap s'.heap
  kz : ∀ b o, @LT.lt Nat _ b z → b ≠ P → s.heap.get? b = some o → s'.heap.get? b = some o
  gens : MoreGens s.gens s'.gens
  drawn : s'.drawn = s.drawn
  os : s'.os = s.os
theorem RelT.of {z : Nat} {P : Addr} {s s' : Shared} (sm : Same s s') (k : Keep s.heap s'.heap) : RelT z P s s' := ⟨KeepT.of k, fun b o _ _ e => k b o e, by rw [sm.gens]; exact .refl _, sm.drawn, sm.os⟩
theorem RelT.trans {z : Nat} {P : Addr} {a b c : Shared} (x : RelT z P a b) (y : RelT z P b c) : RelT z P a c :=
  ⟨x.kt.trans y.kt, fun d o h1 h2 e => y.kz d o h1 h2 (x.kz d o h1 h2 e), x.gens.trans y.gens, y.drawn.trans x.drawn, y.os.trans x.os⟩

section
variable {prog : Program} {w : World} {A : Around} {E : Value → Shared → Prop} {env : Env} {s s₂ : Shared} {it : Value} {n : Nat} {P : Nat → Value → Prop} {elt : Expr} {x : Str} {ifs : List Expr} {scope : Scope} {cl : List (Str × Addr)} {Fin : Addr → Addr → List Value → Shared → Shared → Prop}
/-- a range's iterator, by itself -/
def IterR (prog : Program) (w : World) (A : Around) (n : Nat) (P : Nat → Value → Prop) (s : Shared) (it : Value) (s₂ : Shared) : Prop :=
  ∃ St, it = .ref s.heap.objs.size ∧ Walks prog w A s.heap.objs.size [s.heap.objs.size] [s.heap.objs.size] n P St ∧ St 0 s₂.heap ∧ s₂.heap.objs.size = s.heap.objs.size + 1 ∧ Same s s₂ ∧ Keep s.heap s₂.heap
theorem src_rangeR {r : Addr} {a₀ b₀ : Int} {t₀ u₀ v₀ : Tok} {n : Nat} (hh : A.handled = none) (hr : IsRange s.heap r a₀ b₀ 1 t₀ u₀ v₀) (hsmall : Builtin.Range.small a₀ b₀ 1 = true) (hn : Builtin.Range.rangeSize a₀ b₀ 1 = (n : Int)) :
    wpAny (model prog w) A (pyIter (.ref r)) (fun it s₂ => IterR prog w A n (fun i v => ∃ t, v = .int (a₀ + (i : Nat)) t) s it s₂) E s := by
  refine wpAny_pyIter_range hr hsmall ?_
  have W := Walks.range (prog := prog) (w := w) hh s.heap.objs.size a₀ 1 n
  simp only [Int.mul_one] at W
  exact ⟨_, rfl, W, (by show IsRangeIter _ _ _ _ _; rw [hn]; simpa using Heap.get?_push_size _ rfl), Heap.size_push .., ⟨rfl, rfl, rfl⟩, fun b o e => Heap.get?_push_of_some _ e⟩

abbrev AvC (z I C D : Nat) : Addr → Prop := fun b => @LE.le Nat _ z b ∧ b ∉ [I, C, D]
/-- a comprehension whose tests may lay codes of generator expressions -/
theorem compIn_t {z : Nat} {pos : Pos} {c₀ P₀ : Addr} (H : IterR prog w A n P s it s₂) (hsz : n ≤ sizeLine) (Jp : Nat → List Value → Prop) (j0 : Jp 0 []) (hz : z ≤ s.heap.objs.size) (hc₀ : @LT.lt Nat _ c₀ z) (hP₀ : @LT.lt Nat _ P₀ z)
    (HI : HInv (fun b => @LE.le Nat _ z b) pos c₀ P₀ s.heap)
    (turn : ∀ C D i ys v s₃ m₃ E', i < n → P i v → Jp i ys → RelT z P₀ s s₃ → HInv (AvC z s.heap.objs.size C D) pos c₀ P₀ s₃.heap → (∀ b, @LE.le Nat _ s₃.heap.objs.size b → AvC z s.heap.objs.size C D b) → s₃.heap.Ns C m₃ → m₃ x = some v →
      wpAny (model prog w) A (testsOf ifs (compEnvC scope cl C env)) (fun ok s₄ => RelT z P₀ s₃ s₄ ∧ (∀ b o, ¬ AvC z s.heap.objs.size C D b → b ≠ P₀ → s₃.heap.get? b = some o → s₄.heap.get? b = some o) ∧ HInv (AvC z s.heap.objs.size C D) pos c₀ P₀ s₄.heap ∧
        if ok = true then wpAny (model prog w) A (eval elt (compEnvC scope cl C env)) (fun y s₅ => Same s₄ s₅ ∧ Keep s₄.heap s₅.heap ∧ Jp (i + 1) (ys ++ [y])) E' s₄ else Jp (i + 1) ys) E' s₃)
    (done : ∀ C D ys s', C ≠ D → s.heap.objs.size < C → s.heap.objs.size < D → Jp n ys → RelT z P₀ s s' → HInv (AvC z s.heap.objs.size C D) pos c₀ P₀ s'.heap → s'.heap.PlainList D ys.toArray → Fin C D ys s₂ s') :
    CompIn prog w A env scope cl x ifs elt Fin it s₂ := by
  obtain ⟨St, rfl, W, hst, hsz2, sm, kp⟩ := H
  have nb : ∀ {C D b : Nat}, s.heap.objs.size < C → s.heap.objs.size < D → b < s.heap.objs.size → b ∉ [s.heap.objs.size, C, D] := fun hC hD hb => by
    simp only [List.mem_cons, List.not_mem_nil, or_false, not_or]; (first | lia | omega)
  refine ⟨_, _, _, n, P, St, fun C D i ys s' => s.heap.objs.size < C ∧ s.heap.objs.size < D ∧ RelT z P₀ s s' ∧ HInv (AvC z s.heap.objs.size C D) pos c₀ P₀ s'.heap ∧ Jp i ys, rfl, ⟨W, hsz, hst, ?_, ?_, ?_, ?_⟩, ?_⟩
  · intro b hb
    rw [List.mem_singleton.mp hb, hsz2]; exact Nat.lt_succ_self _
  · intro C D h' tk hCD hC hD hk
    have hC' : s.heap.objs.size < C := by rw [hsz2] at hC; exact hC
    have hD' : s.heap.objs.size < D := by rw [hsz2] at hD; exact hD
    exact ⟨hC', hD', RelT.of (sm.set _ _) (kp.trans hk), (HI.mono fun b hb hl => ⟨hb, nb hC' hD' hl⟩).keep (kp.trans hk), j0⟩
  · rintro C D i ys s₁ h' tk ⟨hC, hD, a, b, c⟩ hk
    have hk' : ∀ d o, d ∉ [s.heap.objs.size, C, D] → s₁.heap.get? d = some o → h'.get? d = some o := fun d o hd e => by
      simp only [List.mem_cons, List.not_mem_nil, or_false, not_or] at hd
      exact hk d o (fun q => hd.1 (List.mem_singleton.mp q)) hd.2.1 hd.2.2 e
    refine ⟨hC, hD, ⟨fun d o e hn => hk' d o (nb hC hD (Heap.lt_size e)) (a.kt d o e hn), fun d o hd hP e => hk' d o (nb hC hD (Heap.lt_size e)) (a.kz d o hd hP e), a.gens, a.drawn, a.os⟩, ?_, c⟩
    exact b.step (nb hC hD (Nat.lt_of_lt_of_le hc₀ hz)) (nb hC hD (Nat.lt_of_lt_of_le hP₀ hz)) (fun d hd => hd.2) hk'
  · rintro C D i ys v s₃ m₃ E' hC2 hD2 hi hP ⟨hC, hD, a, b, c⟩ hn hm ⟨oD, hoD⟩ hfp
    have lC : C < s₃.heap.objs.size := hn.lt
    have lD : D < s₃.heap.objs.size := Heap.lt_size hoD
    refine wpAny_mono (turn C D i ys v s₃ m₃ E' hi hP c a b (fun d hd => ⟨by (first | lia | omega), ?_⟩) hn hm) (fun ok s₄ h₄ => ?_) fun _ _ e => e
    · have hd' : s₃.heap.objs.size ≤ d := hd
      simp only [List.mem_cons, List.not_mem_nil, or_false, not_or]
      refine ⟨?_, ?_, ?_⟩
      · exact Nat.ne_of_gt (by (first | lia | omega))
      · exact Nat.ne_of_gt (by (first | lia | omega))
      · exact Nat.ne_of_gt (by (first | lia | omega))
    obtain ⟨r₄, k₄, H₄, h₄⟩ := h₄
    have stab : Stab C D [s.heap.objs.size] s₃ s₄ := fun d hd o e => by
      have hz' : @LE.le Nat _ z d ∧ d ∈ [s.heap.objs.size, C, D] := by
        rcases hd with q | q | q
        · rw [q]; exact ⟨by (first | lia | omega), by simp⟩
        · rw [q]; exact ⟨by (first | lia | omega), by simp⟩
        · rw [List.mem_singleton.mp q]; exact ⟨hz, by simp⟩
      exact k₄ d o (fun q => q.2 hz'.2) (Nat.ne_of_gt (Nat.lt_of_lt_of_le hP₀ hz'.1)) e
    refine ⟨stab, ?_⟩
    cases ok with
    | false => simp only [Bool.false_eq_true, if_false] at h₄ ⊢; exact ⟨hC, hD, a.trans r₄, H₄, h₄⟩
    | true =>
      simp only [if_true] at h₄ ⊢
      exact wpAny_mono h₄ (fun y s₅ h₅ => ⟨Stab.of h₅.2.1, hC, hD, (a.trans r₄).trans (RelT.of h₅.1 h₅.2.1), H₄.keep h₅.2.1, h₅.2.2⟩) fun _ _ e => e
  · rintro C D ys s' hCD _ _ ⟨hC, hD, a, b, c⟩ _ hp
    exact done C D ys s' hCD hC hD c a b hp
end
end Mine
namespace Mine
open PySem PySem.W PySem.Calls PyProof.Rows
/-- one object is turned that is neither a table, a code nor a list -/
structure Turn1 (x : Addr) (h h' : Heap) : Prop where
  obj : ∃ o, h.get? x = some o ∧ (∀ fs, o.data ≠ .fields fs) ∧ ∀ xs n, o.data ≠ .seq xs n
  mv : ∀ b o, b ≠ x → h.get? b = some o → h'.get? b = some o
theorem Turn1.ne {x b : Addr} {h h' : Heap} {o : Obj} {fs : Array Value} (T : Turn1 x h h') (e : h.get? b = some o) (hd : o.data = .fields fs) : b ≠ x := fun q => by
  obtain ⟨o', e', h1, _⟩ := T.obj
  rw [q, e'] at e; cases e; exact h1 _ hd
theorem Turn1.nel {x b : Addr} {h h' : Heap} {its : Array Value} (T : Turn1 x h h') (hl : h.IsList b its) : b ≠ x := fun q => by
  obtain ⟨o', e', _, h2⟩ := T.obj
  obtain ⟨o, e, _, n, hd⟩ := hl
  rw [q, e'] at e; cases e; exact h2 _ _ hd
theorem Turn1.list {x b : Addr} {h h' : Heap} {its : Array Value} (T : Turn1 x h h') (hl : h.IsList b its) : h'.IsList b its := hl.at fun o e => T.mv _ o (T.nel hl) e
theorem Turn1.ll {x a : Addr} {h h' : Heap} {css : List (List Int)} (T : Turn1 x h h') (y : IsLL h a css) : IsLL h' a css :=
  let ⟨vs, hl, hp⟩ := y; ⟨vs, T.list hl, hp.mono fun _ _ ⟨b, its, e, hl, hi⟩ => ⟨b, its, e, T.list hl, hi⟩⟩
theorem Turn1.hinv {Av : Addr → Prop} {pos : Pos} {c P x : Addr} {h h' : Heap} (T : Turn1 x h h') (H : HInv Av pos c P h) : HInv Av pos c P h' := by
  have key : ∀ {c P : Addr}, CodeHd h c P → CodeHd h' c P := fun x => by
    obtain ⟨o, e, _, ⟨fs, hd⟩, k'⟩ := hdOpen x
    exact k' _ (T.mv _ _ (T.ne e hd) e)
  obtain ⟨a, ps, e, t, alt⟩ := H
  refine ⟨key a, ps, T.mv _ _ (T.ne e rfl) e, t, alt.imp id ?_⟩
  rintro ⟨c', P', f, n, a', ps', e', t'⟩
  exact ⟨c', P', f, n, key a', ps', T.mv _ _ (T.ne e' rfl) e', t'⟩
theorem RelT.turn {P x : Addr} {s s₁ : Shared} {h' : Heap} {tk : Nat} (r : RelT s.heap.objs.size P s s₁) (hx : @LE.le Nat _ s.heap.objs.size x) (mv : ∀ b o, b ≠ x → s₁.heap.get? b = some o → h'.get? b = some o) : RelT s.heap.objs.size P s { s₁ with heap := h', toks := tk } := by
  have ne : ∀ {b : Addr} {o : Obj}, s.heap.get? b = some o → b ≠ x := fun e => Nat.ne_of_lt (Nat.lt_of_lt_of_le (Heap.lt_size e) hx)
  exact ⟨fun b o e hn => mv b o (ne e) (r.kt b o e hn), fun b o h1 h2 e => mv b o (ne e) (r.kz b o h1 h2 e), r.gens, r.drawn, r.os⟩
theorem turn_ns {x : Addr} {h h' : Heap} {m : Str → Option Value} (hn : h.Ns x m) (mv : ∀ b o, b ≠ x → h.get? b = some o → h'.get? b = some o) : Turn1 x h h' :=
  let ⟨o, es, ep, e, hd, _⟩ := hn; ⟨⟨o, e, fun fs q => (by rw [hd] at q; cases q), fun xs n q => (by rw [hd] at q; cases q)⟩, mv⟩
theorem turn_cell {x : Addr} {h h' : Heap} {o : Obj} {v : Option Value} (e : h.get? x = some o) (hd : o.data = .cell v) (mv : ∀ b o, b ≠ x → h.get? b = some o → h'.get? b = some o) : Turn1 x h h' :=
  ⟨⟨o, e, fun fs q => (by rw [hd] at q; cases q), fun xs n q => (by rw [hd] at q; cases q)⟩, mv⟩
/-- the frame over a heap whose tables may grow -/
theorem fr_rel {P L : Addr} {s s₁ s₂ : Shared} {m : Str → Option Value} (F : Fr (hideAll s.heap [P]) L s₁.heap m) (r : RelT s.heap.objs.size P s₁ s₂) : Fr (hideAll s.heap [P]) L s₂.heap m := by
  refine ⟨r.kt.ns F.ns, fun b o e => ?_, F.above⟩
  have hl := Heap.lt_size e
  rw [hideAll_size] at hl
  exact r.kz b o hl (fun q => by rw [q, hideAll_none _ (by simp)] at e; cases e) (F.keep b o e)
end Mine
namespace Mine
open PySem PySem.W PySem.Calls PyProof.Rows

/-! the rules with a state written out: no state is kept inside a state -/
section
variable {M : Model} {prog : Program} {w : World} {A : Around} {E : Value → Shared → Prop} {hp : Heap} {gs : Array GenState} {dr : Drawn} {tk : Nat} {os : OsState} {env : Env} {a b : Int} {t u : Tok} {Q : Value → Shared → Prop}
theorem z_int {i : Int} {k pos} (h : Q (.int i tk) ⟨hp, gs, dr, tk + 1, os⟩) : wpAny M A (eval (.Constant (.int i) k pos) env) Q E ⟨hp, gs, dr, tk, os⟩ := wpAny_Constant_int h
theorem z_str {x : Str} {k pos} (h : Q (.str x tk) ⟨hp, gs, dr, tk + 1, os⟩) : wpAny M A (eval (.Constant (.str x) k pos) env) Q E ⟨hp, gs, dr, tk, os⟩ := wpAny_Constant_str h
theorem z_add (h : Q (.int (a + b) tk) ⟨hp, gs, dr, tk + 1, os⟩) : wpAny (model prog w) A (binaryOp .Add (.int a t) (.int b u)) Q E ⟨hp, gs, dr, tk, os⟩ := PyProof.Rows.add_int h
theorem z_sub (h : Q (.int (a - b) tk) ⟨hp, gs, dr, tk + 1, os⟩) : wpAny (model prog w) A (binaryOp .Sub (.int a t) (.int b u)) Q E ⟨hp, gs, dr, tk, os⟩ := PyProof.Rows.sub_int h
theorem z_neg (h : Q (.int (-a) tk) ⟨hp, gs, dr, tk + 1, os⟩) : wpAny (model prog w) A (unaryOp .USub (.int a t)) Q E ⟨hp, gs, dr, tk, os⟩ := PySem.P.neg_int h
theorem z_mul (h : Q (.int (a * b) tk) ⟨hp, gs, dr, tk + 1, os⟩) (hm : IntMulOk a b) : wpAny (model prog w) A (binaryOp .Mult (.int a t) (.int b u)) Q E ⟨hp, gs, dr, tk, os⟩ := PyProof.Rows.mul_int h hm
theorem z_mod (hb : b ≠ 0) (h : Q (.int (a.fmod b) tk) ⟨hp, gs, dr, tk + 1, os⟩) : wpAny (model prog w) A (binaryOp .Mod (.int a t) (.int b u)) Q E ⟨hp, gs, dr, tk, os⟩ := PyProof.Rows.mod_int' hb h
theorem z_div (hb : b ≠ 0) (h : Q (.int (a.fdiv b) tk) ⟨hp, gs, dr, tk + 1, os⟩) (hq : Builtin.divisionGoesByPylong a b = false ∨ PySem.PylongRoom (model prog w) A ⟨hp, gs, dr, tk, os⟩) : wpAny (model prog w) A (binaryOp .FloorDiv (.int a t) (.int b u)) Q E ⟨hp, gs, dr, tk, os⟩ := PyProof.Rows.floordiv_int hb h hq
theorem z_pow {n : Int} (hn : 0 ≤ n) (hn2 : n ≤ 1000000) (ha : a.natAbs < 2 ^ 64) (h : Q (.int (a ^ n.toNat) tk) ⟨hp, gs, dr, tk + 1, os⟩) : wpAny (model prog w) A (binaryOp .Pow (.int a t) (.int n u)) Q E ⟨hp, gs, dr, tk, os⟩ := PyProof.Rows.pow_int_small hn hn2 ha h
theorem z_abs (h : ∀ u tk', Q (.int (if a < 0 then -a else a) u) ⟨hp, gs, dr, tk', os⟩) : wpAny (model prog w) A (call (.builtin "abs") [.int a t]) Q E ⟨hp, gs, dr, tk, os⟩ := call_abs_int h
theorem z_len {l : Addr} {vs : List Value} {n : Nat} (hl : hp.IsList l vs.toArray) (hi : vs.length = n) (hfit : n < 2 ^ 62) (h : ∀ t tk', Q (.int (n : Nat) t) ⟨hp, gs, dr, tk', os⟩) : wpAny (model prog w) A (call (.builtin "len") [.ref l]) Q E ⟨hp, gs, dr, tk, os⟩ :=
  r_len (s := ⟨hp, gs, dr, tk, os⟩) hl hi hfit h
end
section
variable {M : Model} {prog : Program} {w : World} {A : Around} {E : Value → Shared → Prop} {hp : Heap} {gs : Array GenState} {dr : Drawn} {tk : Nat} {os : OsState} {K : Frag} {p : Program} {loose : List Str} {mg mb : Str → Option Value} {g : Heap} {L a : Addr} {m : Str → Option Value} {cn : Str} {cs : Scope} {ccd : Value} {cl : List (Str × Addr)} {x : Str} {v : Value} {news news' : List (Addr × Obj)}
theorem z_store {Q : Unit → Shared → Prop} (F : Fr g L hp m) (N : News g L hp news) (h : ∀ h' tk', Fr g L h' (up m x v) → News g L h' news → Keep g h' → Q () ⟨h', gs, dr, tk', os⟩)
    (hk : cs.kind = .function) (hx : (envX cn cs L a ccd cl).kindOf x = some .local) : wpAny M A (storeName (envX cn cs L a ccd cl) x v) Q E ⟨hp, gs, dr, tk, os⟩ := r_store (s := ⟨hp, gs, dr, tk, os⟩) F N h hk hx
theorem z_storeB {Q : Unit → Shared → Prop} (F : Fr g L hp m) (N : News g L hp news) (h : ∀ h' tk', Fr g L h' (up m x v) → News g L h' news → (∀ b o, b ≠ L → hp.get? b = some o → h'.get? b = some o) → Q () ⟨h', gs, dr, tk', os⟩)
    (hk : cs.kind = .function) (hx : (envX cn cs L a ccd cl).kindOf x = some .local) : wpAny M A (storeName (envX cn cs L a ccd cl) x v) Q E ⟨hp, gs, dr, tk, os⟩ := r_storeB (s := ⟨hp, gs, dr, tk, os⟩) F N h hk hx
theorem z_storeC {Q : Unit → Shared → Prop} {c : Addr} {o : Obj} {v₀ : Option Value} (F : Fr g L hp m) (hc : cl.lookup x = some c) (ho : hp.get? c = some o) (hcL : c ≠ L) (hcg : g.get? c = none) (hd : o.data = .cell v₀)
    (h : ∀ h' o', Fr g L h' m → h'.get? c = some o' → o'.data = .cell (some v) → (∀ b ob, b ≠ c → hp.get? b = some ob → h'.get? b = some ob) → Q () ⟨h', gs, dr, tk, os⟩)
    (hk : cs.kind = .function) (hx : (envX cn cs L a ccd cl).kindOf x = some .cell) : wpAny M A (storeName (envX cn cs L a ccd cl) x v) Q E ⟨hp, gs, dr, tk, os⟩ := r_storeC (s := ⟨hp, gs, dr, tk, os⟩) F hc ho hcL hcg hd h hk hx
theorem z_newList {vs : List Value} {Q : Value → Shared → Prop} (F : Fr g L hp m) (N : News g L hp news) (h : ∀ l h', Fr g L h' m → News g L h' ((l, listOf vs.toArray 0) :: news) → (∀ p ∈ news, p.1 < l) → Q (.ref l) ⟨h', gs, dr, tk, os⟩) (hsz : vs.length ≤ sizeLine) :
    wpAny M A (newList vs) Q E ⟨hp, gs, dr, tk, os⟩ := newList_K (s := ⟨hp, gs, dr, tk, os⟩) F N h hsz
theorem z_newTuple {vs : List Value} {Q : Value → Shared → Prop} (F : Fr g L hp m) (N : News g L hp news) (h : ∀ h', Fr g L h' m → News g L h' ((hp.objs.size, { cls := .type "tuple", data := .seq vs.toArray }) :: news) → Q (.ref hp.objs.size) ⟨h', gs, dr, tk, os⟩) (hsz : vs.length ≤ sizeLine) :
    wpAny M A (newTuple vs) Q E ⟨hp, gs, dr, tk, os⟩ := newTuple_N (s := ⟨hp, gs, dr, tk, os⟩) F N h hsz
theorem z_append {D : Addr} {its : List Value} {n : Nat} {y : Value} {Q : Value → Shared → Prop} (F : Fr g L hp m) (N : News g L hp news) (U : Upd D (listOf its.toArray n) (listOf (its ++ [y]).toArray (n + 1)) news news') (hsz : its.length ≤ 10000)
    (h : ∀ h', Fr g L h' m → News g L h' news' → Heap.SameBut D hp h' → Q .none ⟨h', gs, dr, tk, os⟩) : wpAny (model prog w) A (call (.builtin "list.append") [.ref D, y]) Q E ⟨hp, gs, dr, tk, os⟩ := r_append (s := ⟨hp, gs, dr, tk, os⟩) F N U hsz h
theorem z_set {D : Addr} {vs : List Value} {ns : List Int} {n : Nat} {k y : Int} {t u : Tok} {Q : Unit → Shared → Prop} (F : Fr g L hp m) (N : News g L hp news)
    (U : Upd D (listOf vs.toArray n) (listOf (vs.set k.toNat (.int y u)).toArray n) news news') (hi : IntsAre vs ns) (h0 : 0 ≤ k) (h1 : k < ns.length) (hfit : k < 2 ^ 63)
    (h : ∀ h', Fr g L h' m → News g L h' news' → IntsAre (vs.set k.toNat (.int y u)) (ns.set k.toNat y) → Q () ⟨h', gs, dr, tk, os⟩) : wpAny (model prog w) A (setItem (.ref D) (.int k t) (.int y u)) Q E ⟨hp, gs, dr, tk, os⟩ := r_set (s := ⟨hp, gs, dr, tk, os⟩) F N U hi h0 h1 hfit h
theorem z_attr {y C dx : Addr} {name : Str} {es : List DictEntry} {k : Nat} {expr : Bool} {attr : Option Value} {Q : Value → Shared → Prop} (G : Gd K p loose mg mb g) (F : Fr g L hp m)
    (hx : hp.get? y = some (instObj C dx)) (hdx : hp.get? dx = some (dictOf es k)) (hg : plainGet K C name = true) (hh : hasDictIn K C = true)
    (ha : findIn K (.ref C) name = some attr) (hn : noGet K attr = true) (hl : getL name es = some (some v)) (hv : handedIn v = true) (h : ∀ tk', Q v ⟨hp, gs, dr, tk', os⟩) : wpAny (model prog w) A (getAttr (.ref y) name expr) Q E ⟨hp, gs, dr, tk, os⟩ :=
  r_attr (s := ⟨hp, gs, dr, tk, os⟩) G F hx hdx hg hh ha hn hl hv h
theorem z_range1 {n : Int} {t : Tok} {Q : Value → Shared → Prop} (F : Fr g L hp m) (N : News g L hp news)
    (h : ∀ r h' tk' t₀ u₀ v₀, Fr g L h' m → News g L h' news → IsRange h' r 0 n 1 t₀ u₀ v₀ → Keep hp h' → Q (.ref r) ⟨h', gs, dr, tk', os⟩) : wpAny (model prog w) A (call (.type "range") [.int n t]) Q E ⟨hp, gs, dr, tk, os⟩ := r_range1 (s := ⟨hp, gs, dr, tk, os⟩) F N h
theorem z_range2 {i j : Int} {t u : Tok} {Q : Value → Shared → Prop} (F : Fr g L hp m) (N : News g L hp news)
    (h : ∀ r h' tk' t₀ u₀ v₀, Fr g L h' m → News g L h' news → IsRange h' r i j 1 t₀ u₀ v₀ → Keep hp h' → Q (.ref r) ⟨h', gs, dr, tk', os⟩) : wpAny (model prog w) A (call (.type "range") [.int i t, .int j u]) Q E ⟨hp, gs, dr, tk, os⟩ := r_range2 (s := ⟨hp, gs, dr, tk, os⟩) F N h
end
end Mine

namespace Mine
open_top hd for PySem.Challenge.rw_k11_0034
example : (PySem.Challenge.rw_k11_0034, hd.heap_39) = (PySem.Challenge.rw_k11_0034, hd.heap_39) := by k_fill; rfl
end Mine
namespace Mine
example : (PySem.Challenge.rw_k11_0034, hd.heap_39) = (PySem.Challenge.rw_k11_0034, hd.heap_39) := by k_fill; rfl
section
variable {prog : Program} {w : World} {A : Around} {E : Value → Shared → Prop} {s : Shared} {p : Program} {loose : List Str} {mg mb : Str → Option Value}

theorem literal_value_ok {Q : Value → Shared → Prop} {lit : Int} {t : Tok} {v : Addr} {vs : List Value} {W : List Int} {n : Nat}
    (G : Gd (hd.heap_39 w.params) p loose mg mb s.heap) (R : Room A 1) (hl : s.heap.IsList v vs.toArray) (hi : IntsAre vs W) (hv : Valid n lit) (hW : W.length = n + 1) (hn : n ≤ 3)
    (ret : ∀ t' s', Same s s' → Keep s.heap s'.heap → Q (.int (litVal lit W) t') s') :
    wpAny (model prog w) A (call (.ref 28) [.int lit t, .ref v]) Q E s := by
  refine enter (g := s.heap) (binds := [("lit", .int lit t), ("values", .ref v)]) G (Keep.refl _) (Nat.le_refl _) (by k_is) (by k_is) R.room (BindsTo.of_eq rfl) (locs rfl) ?_ rfl rfl rfl (by decide)
  intro L h tk F hk hL
  have N : News s.heap L h [] := News.nil
  obtain ⟨hv1, hv2⟩ := hv
  (repeat (first | with_reducible refine wpAny_execs_cons ?_ | with_reducible refine wpAny_If ?_ | (with_reducible refine wpAny_isTrue_Compare1 ?_ (by with_unfolding_all rfl)) | with_reducible refine z_int ?_ | with_reducible refine gt_int ?_ | with_reducible refine wpAny_truthy_bool ?_ | ((with_reducible show wpAny _ _ (eval (Expr.Name _ _) _) _ _ _); (first | (refine nameX_L (v := _) F (by (repeat (first | with_reducible assumption | with_reducible exact up_eq _ _ _ | refine (up_ne (by decide)).trans ?_ | exact rfl))) ?_ rfl rfl (by decide)) | (refine nameX_C (c := _) (o := _) (v := _) N rfl (by k_mem) (by assumption) ?_ rfl rfl (by decide)) | (refine r_glob G F (by k_is) ?_ rfl rfl (by decide)) | (refine r_boot G F (by boot_fast) (by k_is) (by decide) ?_ rfl rfl (by decide))))))
  refine split_bool (fun hc => ?_) (fun hc => ?_)
  · have hc' : 0 < lit := by simpa using hc
    (repeat (first | with_reducible refine wpAny_execs_cons ?_ | with_reducible refine wpAny_Return_some ?_ | with_reducible refine Subscript_ ?_ | ((with_reducible show wpAny _ _ (eval (Expr.Name _ _) _) _ _ _); (first | (refine nameX_L (v := _) F (by (repeat (first | with_reducible assumption | with_reducible exact up_eq _ _ _ | refine (up_ne (by decide)).trans ?_ | exact rfl))) ?_ rfl rfl (by decide)) | (refine nameX_C (c := _) (o := _) (v := _) N rfl (by k_mem) (by assumption) ?_ rfl rfl (by decide)) | (refine r_glob G F (by k_is) ?_ rfl rfl (by decide)) | (refine r_boot G F (by boot_fast) (by k_is) (by decide) ?_ rfl rfl (by decide))))))
    refine r_item (stays_list F.keep hl) hi (by (first | lia | omega)) (by (first | lia | omega)) (by (first | lia | omega)) (fun t' => ?_) (by with_unfolding_all rfl)
    have e : litVal lit W = W.getD lit.toNat 0 := by unfold litVal; rw [if_pos hc']
    rw [← e]
    exact ret _ _ (Same.of _ _ _) F.keep
  · have hc' : ¬ 0 < lit := by simpa using hc
    (repeat (first | with_reducible refine wpAny_execs_cons ?_ | with_reducible refine wpAny_execs_nil ?_ | with_reducible refine wpAny_Return_some ?_ | with_reducible refine UnaryOp_ ?_ | with_reducible refine Subscript_ ?_ | with_reducible refine z_neg ?_ | ((with_reducible show wpAny _ _ (eval (Expr.Name _ _) _) _ _ _); (first | (refine nameX_L (v := _) F (by (repeat (first | with_reducible assumption | with_reducible exact up_eq _ _ _ | refine (up_ne (by decide)).trans ?_ | exact rfl))) ?_ rfl rfl (by decide)) | (refine nameX_C (c := _) (o := _) (v := _) N rfl (by k_mem) (by assumption) ?_ rfl rfl (by decide)) | (refine r_glob G F (by k_is) ?_ rfl rfl (by decide)) | (refine r_boot G F (by boot_fast) (by k_is) (by decide) ?_ rfl rfl (by decide))))))
    refine r_item (stays_list F.keep hl) hi (by (first | lia | omega)) (by (first | lia | omega)) (by (first | lia | omega)) (fun t' => ?_) (by with_unfolding_all rfl)
    (repeat (first | with_reducible refine z_neg ?_))
    have e : litVal lit W = -(W.getD (-lit).toNat 0) := by unfold litVal; rw [if_neg hc']
    rw [← e]
    exact ret _ _ (Same.of _ _ _) F.keep
end
end Mine
namespace Mine
section
variable {prog : Program} {w : World} {A : Around} {E : Value → Shared → Prop} {s : Shared} {p : Program} {loose : List Str} {mg mb : Str → Option Value}

def csTag : CS → Str
  | .tru => "true"
  | .fls => "false"
  | .opn => "open"
  | .unit _ => "unit"
def csLit : CS → Int
  | .unit l => l
  | _ => 0

theorem ints_at {vs : List Value} {ns : List Int} (hi : IntsAre vs ns) {i : Nat} {v : Value} (h : vs.toArray[i]? = some v) : ∃ t, v = .int (ns.getD i 0) t ∧ i < ns.length := by
  have h' : vs[i]? = some v := by simpa using h
  have hlt : i < vs.length := (List.getElem?_eq_some_iff.mp h').1
  have hlt' : i < ns.length := by rw [← hi.length]; exact hlt
  obtain ⟨t, ht⟩ := hi.get i ns[i] (by simp [hlt'])
  rw [h'] at ht
  refine ⟨t, ?_, hlt'⟩
  have e : ns.getD i 0 = ns[i] := by simp [hlt']
  rw [e]; exact Option.some.inj ht

theorem getD_mem {l : List Int} {i : Nat} (h : i < l.length) : l.getD i 0 ∈ l := by
  rw [List.getD_eq_getElem?_getD, List.getElem?_eq_getElem h]; exact List.getElem_mem _
theorem take_getD {l : List Int} {i : Nat} (h : i < l.length) : l.take (i + 1) = l.take i ++ [l.getD i 0] := by
  rw [List.take_add_one, List.getD_eq_getElem?_getD, List.getElem?_eq_getElem h]; rfl

theorem clause_state_ok {Q : Value → Shared → Prop} {c v : Addr} {cs vs : List Value} {cl W : List Int} {n : Nat}
    (G : Gd (hd.heap_39 w.params) p loose mg mb s.heap) (R : Room A 2) (hc : s.heap.IsList c cs.toArray) (hci : IntsAre cs cl) (hl : s.heap.IsList v vs.toArray) (hi : IntsAre vs W) (hv : ValidC n cl) (hW : W.length = n + 1) (hn : n ≤ 3) (hsz : cl.length ≤ 1000)
    (ret : ∀ T t₁ t₂ s', Same s s' → Keep s.heap s'.heap → IsTup s'.heap T #[.str (csTag (clauseState cl W)) t₁, .int (csLit (clauseState cl W)) t₂] → Q (.ref T) s') :
    wpAny (model prog w) A (call (.ref 33) [.ref c, .ref v]) Q E s := by
  have hcs : cs.toArray.size = cl.length := by simp [hci.length]
  refine enterC (g := s.heap) (binds := [("clause", .ref c), ("values", .ref v)]) G (Keep.refl _) (Nat.le_refl _) (by k_is) (by k_is) R.room (BindsTo.of_eq rfl) rfl (by decide +kernel) ?_ rfl rfl rfl
  intro L h tk cells F N Y hk hL
  obtain ⟨oc, rfl, dc⟩ := CellsAre.one (n := "values") (c := L + 1) Y
  replace dc : oc.data = .cell (some (.ref v)) := dc
  have hcL : c ≠ L := Nat.ne_of_lt (Nat.lt_of_lt_of_le (list_lt hc) hL)
  (repeat (first | with_reducible refine wpAny_execs_cons ?_))
  refine wpAny_For ?_ (fun _ => rfl)
  (repeat (first | ((with_reducible show wpAny _ _ (eval (Expr.Name _ _) _) _ _ _); (first | (refine nameX_L (v := _) F (by (repeat (first | with_reducible assumption | with_reducible exact up_eq _ _ _ | refine (up_ne (by decide)).trans ?_ | exact rfl))) ?_ rfl rfl (by decide)) | (refine nameX_C (c := _) (o := _) (v := _) N rfl (by k_mem) (by assumption) ?_ rfl rfl (by decide)) | (refine r_glob G F (by k_is) ?_ rfl rfl (by decide)) | (refine r_boot G F (by boot_fast) (by k_is) (by decide) ?_ rfl rfl (by decide))))))
  have NI := news_ne N
  refine for_list (items := cs.toArray) (fun i m s' => Same s s' ∧ m "clause" = some (.ref c) ∧ News s.heap L s'.heap [(L + 1, oc)] ∧ (cl.take i).any (fun l => litVal l W == 1) = false)
    R.handled (stays_list F.keep hc) hcL rfl rfl F ?_ ?_ ?_ ?_
  · intro h' tk' k
    exact ⟨Same.of _ _ _, rfl, N.grown k, by simp⟩
  · rintro i m s₁ h' tk' ⟨a, b, c, d⟩ k
    exact ⟨a.set _ _, b, news_move c NI k, d⟩
  · rintro i x m s₁ E' hx ⟨hs₁, hm, N, hany⟩ F - ⟨oI, hoI⟩
    refine hideQ (fun Q₁ hQ₁ => ?_)
    obtain ⟨t, rfl, hlt⟩ := ints_at hci hx
    replace F : Fr s.heap L s₁.heap (up m "lit" (.int (cl.getD i 0) t)) := F
    have hmem : cl.getD i 0 ∈ cl := getD_mem hlt
    have htake : cl.take (i + 1) = cl.take i ++ [cl.getD i 0] := take_getD hlt
    (repeat (first | with_reducible refine wpAny_execs_cons ?_ | with_reducible refine wpAny_If ?_ | (with_reducible refine wpAny_isTrue_Compare1 ?_ (by with_unfolding_all rfl)) | ((with_reducible show wpAny _ _ (eval (Expr.Name _ _) _) _ _ _); (first | (refine nameX_L (v := _) F (by (repeat (first | with_reducible assumption | with_reducible exact up_eq _ _ _ | refine (up_ne (by decide)).trans ?_ | exact rfl))) ?_ rfl rfl (by decide)) | (refine nameX_C (c := _) (o := _) (v := _) N rfl (by k_mem) (by assumption) ?_ rfl rfl (by decide)) | (refine r_glob G F (by k_is) ?_ rfl rfl (by decide)) | (refine r_boot G F (by boot_fast) (by k_is) (by decide) ?_ rfl rfl (by decide)))) | (with_reducible refine args_cons ?_ rfl) | (with_reducible refine args_nil ?_) | ((with_reducible show Keep _ _ ∧ _); refine And.intro F.keep ?_) | ((with_reducible show wpAny _ _ (callWith _ (Value.ref _) [] _ []) _ _ _); refine r_callf G (by k_is) ?_ rfl rfl) | (with_reducible refine Call_ ?_ rfl)))
    refine literal_value_ok (G.keeps F.keep) (R.deeper _) (stays_list F.keep hl) hi (hv _ hmem) hW hn (fun t' s' sm kp => ?_)
    replace F := F.keeps kp
    replace N := N.grown kp
    (repeat (first | with_reducible refine z_int ?_ | with_reducible refine eq_int ?_ | with_reducible refine wpAny_truthy_bool ?_))
    refine split_bool (fun hc => ?_) (fun hc => ?_)
    · (repeat (first | with_reducible refine wpAny_execs_cons ?_ | with_reducible refine wpAny_Return_some ?_ | with_reducible refine z_int ?_ | with_reducible refine z_str ?_ | with_reducible refine Tuple_ ?_ | (with_reducible refine args_cons ?_ rfl) | (with_reducible refine args_nil ?_) | ((with_reducible show wpAny _ _ (newTuple _) _ _ _); (refine z_newTuple F N ?_ (by size_fits)); clear F N; intro h F N)))
      have e : clauseState cl W = .tru := by
        unfold clauseState
        rw [if_pos (List.any_eq_true.mpr ⟨_, hmem, hc⟩)]
      exact hQ₁ (.ret _) _ (ret _ _ _ _ ((hs₁.trans sm).set _ _) F.keep (by rw [e]; exact ⟨_, N.get (List.mem_cons_self ..), rfl, _, rfl⟩))
    · (repeat (first | with_reducible refine wpAny_execs_nil ?_))
      refine hQ₁ .next _ ⟨_, F, fun o e => kp _ _ e, fun o e => kp _ _ e, (hs₁.trans sm).set _ _, (up_ne (by decide)).trans hm, N, ?_⟩
      rw [htake, List.any_append, hany]
      simpa using hc
  · rintro m s₁ ⟨hs₁, hm, N, hany⟩ F
    rw [hcs, List.take_length] at hany
    show wpAny _ _ _ _ _ _
    (repeat (first | with_reducible refine wpAny_execs_cons ?_))
    refine comp_assign (g := s.heap) (cl := [("values", L + 1)]) rfl rfl (by decide) rfl (by decide) rfl rfl rfl ?_ (fun _ => rfl)
    (repeat (first | ((with_reducible show wpAny _ _ (eval (Expr.Name _ _) _) _ _ _); (first | (refine nameX_L (v := _) F (by (repeat (first | with_reducible assumption | with_reducible exact up_eq _ _ _ | refine (up_ne (by decide)).trans ?_ | exact rfl))) ?_ rfl rfl (by decide)) | (refine nameX_C (c := _) (o := _) (v := _) N rfl (by k_mem) (by assumption) ?_ rfl rfl (by decide)) | (refine r_glob G F (by k_is) ?_ rfl rfl (by decide)) | (refine r_boot G F (by boot_fast) (by k_is) (by decide) ?_ rfl rfl (by decide))))))
    refine wpAny_mono (src_list (show A.handled = none from R.handled) (stays_list F.keep hc)) (fun it s₂ hit => ?_) fun _ _ e => e
    refine compIn_v hit (by rw [hcs]; exact Nat.le_trans hsz (by decide)) (fun i ys => IntsAre ys ((cl.take i).filter fun l => litVal l W == 0)) (by simpa using IntsAre.nil) ?_ ?_
    · intro C i ys x s₃ m₃ E' hi' hx hj sm kp hn₃ hm₃
      obtain ⟨t, rfl, hlt⟩ := ints_at hci hx
      have hmem : cl.getD i 0 ∈ cl := getD_mem hlt
      have htake : cl.take (i + 1) = cl.take i ++ [cl.getD i 0] := take_getD hlt
      have G₃ := G.keeps (fun b o e => kp b o (F.keep b o e))
      have dc₃ : s₃.heap.IsCell (L + 1) (some (.ref v)) := ⟨oc, kp _ _ (N.get (List.mem_cons_self ..)), dc⟩
      refine tests_one ?_
      refine wpAny_isTrue_Compare1 ?_ (by with_unfolding_all rfl)
      refine Call_ ?_ rfl
      refine e_glob G₃ (by k_is) ?_ rfl rfl rfl (by decide)
      refine r_callf G₃ (by k_is) ?_ rfl rfl
      refine args_cons ?_ rfl
      refine e_local hn₃ hm₃ ?_ rfl rfl (by decide)
      refine args_cons ?_ rfl
      refine e_cell (c := L + 1) rfl dc₃ ?_ rfl rfl (by decide)
      refine args_nil ?_
      refine ⟨fun _ _ e => e, ?_⟩
      refine literal_value_ok G₃ (R.deeper _) (stays_list kp (stays_list F.keep hl)) hi (hv _ hmem) hW hn (fun t' s' sm' kp' => ?_)
      (repeat (first | with_reducible refine z_int ?_ | with_reducible refine eq_int ?_ | with_reducible refine wpAny_truthy_bool ?_))
      refine ⟨sm'.trans (Same.of _ _ _), kp', ?_⟩
      refine split_bool (fun hc => ?_) (fun hc => ?_)
      · refine e_local (hn₃.keeps kp') hm₃ ?_ rfl rfl (by decide)
        refine ⟨Same.refl _, Keep.refl _, ?_⟩
        rw [htake, List.filter_append, List.filter_cons_of_pos (by simpa using hc)]
        exact IntsAre.append hj (IntsAre.cons _ _ IntsAre.nil)
      · rw [htake, List.filter_append, List.filter_cons_of_neg (by simpa using hc)]
        simpa using hj
    · intro C D ys s' hCD hC hD hj sm kp hpl
      rw [hcs, List.take_length] at hj
      obtain ⟨fp, St, _, _, _, _, _, _, k₂⟩ := hit
      refine fin_assign F N k₂ kp hC hD (fun h tk q F N hk' => ?_)
      replace sm : Same s s' := hs₁.trans sm
      have hD : h.IsList D ys.toArray := ⟨_, N.get (List.mem_cons_self ..), rfl, q, rfl⟩
      have hDL : D ≠ L := (N (D, listOf ys.toArray q) (List.mem_cons_self ..)).2.1
      have hst : clauseState cl W = match cl.filter (fun l => litVal l W == 0) with
          | [] => .fls
          | u :: us => if (u :: us).any (fun l => l != u) then .opn else .unit u := by
        unfold clauseState
        rw [if_neg (by rw [hany]; simp)] <;> rfl
      have hul : (cl.filter fun l => litVal l W == 0).length ≤ 1000 := Nat.le_trans (List.length_filter_le _ _) hsz
      revert hj hst hul
      generalize cl.filter (fun l => litVal l W == 0) = us
      intro hj hst hul
      show wpAny _ _ _ _ _ _
      (repeat (first | with_reducible refine wpAny_execs_cons ?_ | with_reducible refine wpAny_If ?_ | (with_reducible refine wpAny_isTrue_Compare1 ?_ (by with_unfolding_all rfl)) | ((with_reducible show wpAny _ _ (eval (Expr.Name _ _) _) _ _ _); (first | (refine nameX_L (v := _) F (by (repeat (first | with_reducible assumption | with_reducible exact up_eq _ _ _ | refine (up_ne (by decide)).trans ?_ | exact rfl))) ?_ rfl rfl (by decide)) | (refine nameX_C (c := _) (o := _) (v := _) N rfl (by k_mem) (by assumption) ?_ rfl rfl (by decide)) | (refine r_glob G F (by k_is) ?_ rfl rfl (by decide)) | (refine r_boot G F (by boot_fast) (by k_is) (by decide) ?_ rfl rfl (by decide)))) | (with_reducible refine args_cons ?_ rfl) | (with_reducible refine args_nil ?_) | ((with_reducible show wpAny _ _ (callWith _ (Value.builtin _) [] _ []) _ _ _); refine callWith_builtin1 ?_ rfl rfl) | (with_reducible refine Call_ ?_ rfl)))
      refine z_len hD hj.length (by (first | lia | omega)) (fun t tk => ?_)
      (repeat (first | with_reducible refine z_int ?_ | with_reducible refine eq_int ?_ | with_reducible refine wpAny_truthy_bool ?_))
      refine split_bool (fun hc => ?_) (fun hc => ?_)
      · have e0 : us = [] := by
          have : us.length = 0 := by simpa using hc
          exact List.length_eq_zero_iff.mp this
        subst e0
        (repeat (first | with_reducible refine wpAny_execs_cons ?_ | with_reducible refine wpAny_Return_some ?_ | with_reducible refine z_int ?_ | with_reducible refine z_str ?_ | with_reducible refine Tuple_ ?_ | (with_reducible refine args_cons ?_ rfl) | (with_reducible refine args_nil ?_) | ((with_reducible show wpAny _ _ (newTuple _) _ _ _); (refine z_newTuple F N ?_ (by size_fits)); clear F N; intro h F N)))
        exact ret _ _ _ _ (sm.set _ _) F.keep (by rw [hst]; exact ⟨_, N.get (List.mem_cons_self ..), rfl, _, rfl⟩)
      · obtain ⟨u, us, rfl⟩ : ∃ u r, us = u :: r := by
          cases us with
          | nil => simp at hc
          | cons u r => exact ⟨u, r, rfl⟩
        have hys : ys.toArray.size = (u :: us).length := by simp [hj.length]
        (repeat (first | with_reducible refine wpAny_execs_cons ?_ | with_reducible refine wpAny_execs_nil ?_))
        refine wpAny_For ?_ (fun _ => rfl)
        (repeat (first | ((with_reducible show wpAny _ _ (eval (Expr.Name _ _) _) _ _ _); (first | (refine nameX_L (v := _) F (by (repeat (first | with_reducible assumption | with_reducible exact up_eq _ _ _ | refine (up_ne (by decide)).trans ?_ | exact rfl))) ?_ rfl rfl (by decide)) | (refine nameX_C (c := _) (o := _) (v := _) N rfl (by k_mem) (by assumption) ?_ rfl rfl (by decide)) | (refine r_glob G F (by k_is) ?_ rfl rfl (by decide)) | (refine r_boot G F (by boot_fast) (by k_is) (by decide) ?_ rfl rfl (by decide))))))
        have NI := news_ne N
        refine for_list (items := ys.toArray) (fun i m s' => Same s s' ∧ m "unset" = some (.ref D) ∧ News s.heap L s'.heap [(D, listOf ys.toArray q), (L + 1, oc)] ∧ ((u :: us).take i).any (fun l => l != u) = false)
          R.handled hD hDL rfl rfl F ?_ ?_ ?_ ?_
        · intro h' tk' k
          exact ⟨sm.set _ _, up_eq _ _ _, N.grown k, by simp⟩
        · rintro i m s₁ h' tk' ⟨a, b, c, d⟩ k
          exact ⟨a.set _ _, b, news_move c NI k, d⟩
        · rintro i x m s₁ E' hx ⟨hs₁, hm, N, hany⟩ F hD - 
          refine hideQ (fun Q₁ hQ₁ => ?_)
          obtain ⟨t, rfl, hlt⟩ := ints_at hj hx
          replace F : Fr s.heap L s₁.heap (up m "lit" (.int ((u :: us).getD i 0) t)) := F
          have hmem : (u :: us).getD i 0 ∈ (u :: us) := getD_mem hlt
          have htake : (u :: us).take (i + 1) = (u :: us).take i ++ [(u :: us).getD i 0] := take_getD hlt
          (repeat (first | with_reducible refine wpAny_execs_cons ?_ | with_reducible refine wpAny_If ?_ | (with_reducible refine wpAny_isTrue_Compare1 ?_ (by with_unfolding_all rfl)) | with_reducible refine z_int ?_ | with_reducible refine Subscript_ ?_ | ((with_reducible show wpAny _ _ (eval (Expr.Name _ _) _) _ _ _); (first | (refine nameX_L (v := _) F (by (repeat (first | with_reducible assumption | with_reducible exact up_eq _ _ _ | refine (up_ne (by decide)).trans ?_ | exact rfl))) ?_ rfl rfl (by decide)) | (refine nameX_C (c := _) (o := _) (v := _) N rfl (by k_mem) (by assumption) ?_ rfl rfl (by decide)) | (refine r_glob G F (by k_is) ?_ rfl rfl (by decide)) | (refine r_boot G F (by boot_fast) (by k_is) (by decide) ?_ rfl rfl (by decide))))))
          refine r_item hD hj (by (first | lia | omega)) (by simp only [List.length_cons]; (first | lia | omega)) (by (first | lia | omega)) (fun t' => ?_) (by with_unfolding_all rfl)
          (repeat (first | with_reducible refine ne_int ?_ | with_reducible refine wpAny_truthy_bool ?_))
          refine split_bool (fun hc => ?_) (fun hc => ?_)
          · (repeat (first | with_reducible refine wpAny_execs_cons ?_ | with_reducible refine wpAny_Return_some ?_ | with_reducible refine z_int ?_ | with_reducible refine z_str ?_ | with_reducible refine Tuple_ ?_ | (with_reducible refine args_cons ?_ rfl) | (with_reducible refine args_nil ?_) | ((with_reducible show wpAny _ _ (newTuple _) _ _ _); (refine z_newTuple F N ?_ (by size_fits)); clear F N; intro h F N)))
            have e1 : clauseState cl W = .opn := by rw [hst]; show (if _ then _ else _) = _; rw [if_pos (List.any_eq_true.mpr ⟨_, hmem, by simpa using hc⟩)]
            exact hQ₁ (.ret _) _ (ret _ _ _ _ (hs₁.set _ _) F.keep (by rw [e1]; exact ⟨_, N.get (List.mem_cons_self ..), rfl, _, rfl⟩))
          · (repeat (first | with_reducible refine wpAny_execs_nil ?_))
            refine hQ₁ .next _ ⟨_, F, fun o e => e, fun o e => e, hs₁.set _ _, (up_ne (by decide)).trans hm, N, ?_⟩
            rw [htake, List.any_append, hany]
            simpa using hc
        · rintro m s₁ ⟨hs₁, hm, N, hany⟩ F
          rw [hys, List.take_length] at hany
          have e1 : clauseState cl W = .unit u := by rw [hst]; show (if _ then _ else _) = _; rw [if_neg (by rw [hany]; simp)]
          show wpAny _ _ _ _ _ _
          (repeat (first | with_reducible refine wpAny_execs_cons ?_ | with_reducible refine wpAny_Return_some ?_ | with_reducible refine z_int ?_ | with_reducible refine z_str ?_ | with_reducible refine Subscript_ ?_ | with_reducible refine Tuple_ ?_ | ((with_reducible show wpAny _ _ (eval (Expr.Name _ _) _) _ _ _); (first | (refine nameX_L (v := _) F (by (repeat (first | with_reducible assumption | with_reducible exact up_eq _ _ _ | refine (up_ne (by decide)).trans ?_ | exact rfl))) ?_ rfl rfl (by decide)) | (refine nameX_C (c := _) (o := _) (v := _) N rfl (by k_mem) (by assumption) ?_ rfl rfl (by decide)) | (refine r_glob G F (by k_is) ?_ rfl rfl (by decide)) | (refine r_boot G F (by boot_fast) (by k_is) (by decide) ?_ rfl rfl (by decide)))) | (with_reducible refine args_cons ?_ rfl)))
          refine r_item ⟨_, N.get (List.mem_cons_self ..), rfl, q, rfl⟩ hj (by (first | lia | omega)) (by simp only [List.length_cons]; (first | lia | omega)) (by (first | lia | omega)) (fun t' => ?_) (by with_unfolding_all rfl)
          (repeat (first | (with_reducible refine args_nil ?_) | ((with_reducible show wpAny _ _ (newTuple _) _ _ _); (refine z_newTuple F N ?_ (by size_fits)); clear F N; intro h F N)))
          exact ret _ _ _ _ (hs₁.set _ _) F.keep (by rw [e1]; exact ⟨_, N.get (List.mem_cons_self ..), rfl, _, rfl⟩)
end
end Mine
namespace Mine
section
variable {prog : Program} {w : World} {A : Around} {E : Value → Shared → Prop} {s : Shared} {p : Program} {loose : List Str} {mg mb : Str → Option Value}

theorem tag_ne_true (c : CS) : (csTag c != Str.ofString "true") = !c.isTru := by
  cases c <;> (simp only [csTag, CS.isTru]; decide)
def CS.isFls : CS → Bool
  | .fls => true
  | _ => false
def CS.isUnit : CS → Bool
  | .unit _ => true
  | _ => false
theorem tag_eq_false (c : CS) : (csTag c == Str.ofString "false") = c.isFls := by
  cases c <;> (simp only [csTag, CS.isFls]; decide)
theorem tag_eq_unit (c : CS) : (csTag c == Str.ofString "unit") = c.isUnit := by
  cases c <;> (simp only [csTag, CS.isUnit]; decide)

/-- a formula within the law's sizes -/
structure Small (n : Nat) (css : List (List Int)) : Prop where
  val : ValidCs n css
  n3 : n ≤ 3
  len : css.length ≤ 1000
  each : ∀ c ∈ css, c.length ≤ 1000

theorem ll_at {h : Heap} {vs : List Value} {css : List (List Int)} (hp : Paired (IsI h) vs css) {i : Nat} {v : Value} (hv : vs.toArray[i]? = some v) :
    ∃ b its c, v = .ref b ∧ css[i]? = some c ∧ c ∈ css ∧ h.IsList b its.toArray ∧ IntsAre its c := by
  obtain ⟨c, hc, b, its, e, hl, hi⟩ := paired_at hp (show vs[i]? = some v by simpa using hv)
  exact ⟨b, its, c, e, hc, List.mem_of_getElem? hc, hl, hi⟩
theorem take_at {α : Type} {l : List α} {i : Nat} {c : α} (h : l[i]? = some c) : l.take (i + 1) = l.take i ++ [c] := by
  rw [List.take_add_one, h]; rfl

theorem satisfies_ok {Q : Value → Shared → Prop} {v a : Addr} {vs : List Value} {W : List Int} {css : List (List Int)} {n : Nat}
    (G : Gd (hd.heap_39 w.params) p loose mg mb s.heap) (R : Room A 3) (hl : s.heap.IsList v vs.toArray) (hi : IntsAre vs W) (hW : W.length = n + 1) (hcs : IsLL s.heap a css) (S : Small n css)
    (ret : ∀ s', Same s s' → Keep s.heap s'.heap → Q (.bool (satisfies W css)) s') :
    wpAny (model prog w) A (call (.ref 40) [.ref v, .ref a]) Q E s := by
  obtain ⟨cvs, hca, hcp⟩ := hcs
  have hlen : cvs.toArray.size = css.length := by simp [paired_len hcp]
  refine enter (g := s.heap) (binds := [("values", .ref v), ("clauses", .ref a)]) G (Keep.refl _) (Nat.le_refl _) (by k_is) (by k_is) R.room (BindsTo.of_eq rfl) (locs rfl) ?_ rfl rfl rfl (by decide)
  intro L h tk F hk hL
  have N : News s.heap L h [] := News.nil
  have haL : a ≠ L := Nat.ne_of_lt (Nat.lt_of_lt_of_le (list_lt hca) hL)
  (repeat (first | with_reducible refine wpAny_execs_cons ?_))
  refine wpAny_For ?_ (fun _ => rfl)
  (repeat (first | ((with_reducible show wpAny _ _ (eval (Expr.Name _ _) _) _ _ _); (first | (refine nameX_L (v := _) F (by (repeat (first | with_reducible assumption | with_reducible exact up_eq _ _ _ | refine (up_ne (by decide)).trans ?_ | exact rfl))) ?_ rfl rfl (by decide)) | (refine nameX_C (c := _) (o := _) (v := _) N rfl (by k_mem) (by assumption) ?_ rfl rfl (by decide)) | (refine r_glob G F (by k_is) ?_ rfl rfl (by decide)) | (refine r_boot G F (by boot_fast) (by k_is) (by decide) ?_ rfl rfl (by decide))))))
  refine for_list (items := cvs.toArray) (fun i m s' => Same s s' ∧ m "values" = some (.ref v) ∧ (css.take i).all (fun c => (clauseState c W).isTru) = true)
    R.handled (stays_list F.keep hca) haL rfl rfl F ?_ ?_ ?_ ?_
  · intro h' tk' k
    exact ⟨Same.of _ _ _, rfl, by simp⟩
  · rintro i m s₁ h' tk' ⟨a, b, d⟩ k
    exact ⟨a.set _ _, b, d⟩
  · rintro i x m s₁ E' hx ⟨hs₁, hm, hall⟩ F - -
    refine hideQ (fun Q₁ hQ₁ => ?_)
    obtain ⟨b, its, c, rfl, hc, hmem, hbl, hbi⟩ := ll_at hcp hx
    replace F : Fr s.heap L s₁.heap (up m "clause" (.ref b)) := F
    have N : News s.heap L s₁.heap [] := News.nil
    (repeat (first | with_reducible refine wpAny_execs_cons ?_ | with_reducible refine wpAny_If ?_ | (with_reducible refine wpAny_isTrue_Compare1 ?_ (by with_unfolding_all rfl)) | with_reducible refine Subscript_ ?_ | ((with_reducible show wpAny _ _ (eval (Expr.Name _ _) _) _ _ _); (first | (refine nameX_L (v := _) F (by (repeat (first | with_reducible assumption | with_reducible exact up_eq _ _ _ | refine (up_ne (by decide)).trans ?_ | exact rfl))) ?_ rfl rfl (by decide)) | (refine nameX_C (c := _) (o := _) (v := _) N rfl (by k_mem) (by assumption) ?_ rfl rfl (by decide)) | (refine r_glob G F (by k_is) ?_ rfl rfl (by decide)) | (refine r_boot G F (by boot_fast) (by k_is) (by decide) ?_ rfl rfl (by decide)))) | (with_reducible refine args_cons ?_ rfl) | (with_reducible refine args_nil ?_) | ((with_reducible show Keep _ _ ∧ _); refine And.intro F.keep ?_) | ((with_reducible show wpAny _ _ (callWith _ (Value.ref _) [] _ []) _ _ _); refine r_callf G (by k_is) ?_ rfl rfl) | (with_reducible refine Call_ ?_ rfl)))
    refine clause_state_ok (G.keeps F.keep) (R.deeper _) (stays_list F.keep hbl) hbi (stays_list F.keep hl) hi (S.val c hmem) hW S.n3 (S.each c hmem) (fun T t₁ t₂ s' sm kp hT => ?_)
    replace F := F.keeps kp
    replace N := N.grown kp
    (repeat (first | with_reducible refine z_int ?_))
    refine r_tup (k := 0) hT rfl (by decide) ?_ (by with_unfolding_all rfl)
    (repeat (first | with_reducible refine z_str ?_))
    refine ne_str ?_
    rw [tag_ne_true]
    (repeat (first | with_reducible refine wpAny_truthy_bool ?_))
    refine split_bool (fun hc' => ?_) (fun hc' => ?_)
    · (repeat (first | with_reducible refine wpAny_execs_cons ?_ | with_reducible refine wpAny_Return_some ?_ | with_reducible refine Constant_bool ?_))
      have e : satisfies W css = false := by
        unfold satisfies
        rw [List.all_eq_false]
        exact ⟨c, hmem, by simpa using hc'⟩
      rw [e] at ret
      exact hQ₁ (.ret _) _ (ret _ ((hs₁.trans sm).set _ _) F.keep)
    · (repeat (first | with_reducible refine wpAny_execs_nil ?_))
      refine hQ₁ .next _ ⟨_, F, fun o e => kp _ _ e, fun o e => kp _ _ e, (hs₁.trans sm).set _ _, (up_ne (by decide)).trans hm, ?_⟩
      rw [take_at hc, List.all_append, hall]
      simpa using hc'
  · rintro m s₁ ⟨hs₁, hm, hall⟩ F
    rw [hlen, List.take_length] at hall
    have N : News s.heap L s₁.heap [] := News.nil
    show wpAny _ _ _ _ _ _
    (repeat (first | with_reducible refine wpAny_execs_cons ?_ | with_reducible refine wpAny_Return_some ?_ | with_reducible refine Constant_bool ?_))
    rw [show satisfies W css = true from hall] at ret
    exact ret _ (hs₁.set _ _) F.keep

theorem values_ok {Q : Value → Shared → Prop} {k n : Nat} {t u : Tok}
    (G : Gd (hd.heap_39 w.params) p loose mg mb s.heap) (R : Room A 1) (hn : n ≤ 3)
    (ret : ∀ D its s', Same s s' → Keep s.heap s'.heap → s'.heap.IsList D its.toArray → IntsAre its (valuesOf k n) → Q (.ref D) s') :
    wpAny (model prog w) A (call (.ref 21) [.int (k : Nat) t, .int (n : Nat) u]) Q E s := by
  refine enter (g := s.heap) (binds := [("k", .int (k : Nat) t), ("n", .int (n : Nat) u)]) G (Keep.refl _) (Nat.le_refl _) (by k_is) (by k_is) R.room (BindsTo.of_eq rfl) (locs rfl) ?_ rfl rfl rfl (by decide)
  intro L h tk F hk hL
  have N : News s.heap L h [] := News.nil
  (repeat (first | with_reducible refine wpAny_execs_cons ?_ | with_reducible refine z_int ?_ | with_reducible refine List_ ?_ | ((with_reducible show wpAny _ _ (eval (Expr.Name _ _) _) _ _ _); (first | (refine nameX_L (v := _) F (by (repeat (first | with_reducible assumption | with_reducible exact up_eq _ _ _ | refine (up_ne (by decide)).trans ?_ | exact rfl))) ?_ rfl rfl (by decide)) | (refine nameX_C (c := _) (o := _) (v := _) N rfl (by k_mem) (by assumption) ?_ rfl rfl (by decide)) | (refine r_glob G F (by k_is) ?_ rfl rfl (by decide)) | (refine r_boot G F (by boot_fast) (by k_is) (by decide) ?_ rfl rfl (by decide)))) | (with_reducible refine args_cons ?_ rfl) | (with_reducible refine args_nil ?_) | ((with_reducible show wpAny _ _ (newList _) _ _ _); (refine z_newList F N ?_ (by size_fits)); clear F N; intro D h F N hDlt) | (with_reducible refine wpAny_Assign_Name ?_ (by with_unfolding_all rfl)) | ((with_reducible show wpAny _ _ (storeName _ _ _) _ _ _); (refine z_store F N ?_ rfl rfl; clear F N; intro h tk F N hg))))
  refine wpAny_For ?_ (fun _ => rfl)
  (repeat (first | with_reducible refine wpAny_BinOp ?_ | with_reducible refine z_int ?_ | with_reducible refine z_add ?_ | ((with_reducible show wpAny _ _ (eval (Expr.Name _ _) _) _ _ _); (first | (refine nameX_L (v := _) F (by (repeat (first | with_reducible assumption | with_reducible exact up_eq _ _ _ | refine (up_ne (by decide)).trans ?_ | exact rfl))) ?_ rfl rfl (by decide)) | (refine nameX_C (c := _) (o := _) (v := _) N rfl (by k_mem) (by assumption) ?_ rfl rfl (by decide)) | (refine r_glob G F (by k_is) ?_ rfl rfl (by decide)) | (refine r_boot G F (by boot_fast) (by k_is) (by decide) ?_ rfl rfl (by decide)))) | (with_reducible refine args_cons ?_ rfl) | (with_reducible refine args_nil ?_) | ((with_reducible show wpAny _ _ (callWith _ (Value.type _) [] _ []) _ _ _); refine Pv.callWith_type1 ?_ rfl rfl) | (with_reducible refine Call_ ?_ rfl)))
  (refine z_range2 F N ?_; clear F N; intro r h tk t0 u0 v0 F N hr hkr)
  have hD0 : ∀ p ∈ ([] : List (Addr × Obj)), p.1 ≠ D := fun _ h => nomatch h
  have hnI : D ≠ h.objs.size := news_ne N _ (List.mem_cons_self ..)
  have hIL := ne_frame F
  have hIg := fresh_of F.keep
  refine for_range (n := n) (fun i m s' => Same s s' ∧ m "values" = some (.ref D) ∧ (∃ t, m "rest" = some (.int ((k / 2 ^ i : Nat) : Int) t)) ∧
      ∃ its q ns, News s.heap L s'.heap [(D, listOf its.toArray q)] ∧ IntsAre its ns ∧ ns.length = i + 1 ∧ ns ++ bitsOf (k / 2 ^ i) (n - i) = valuesOf k n)
    R.handled hr (sm1 (Nat.le_trans hn (by decide))) (sz1 n) rfl rfl F ?_ ?_ ?_ ?_
  · intro h' tk' kp
    exact ⟨Same.of _ _ _, (up_ne (by decide)).trans (up_eq _ _ _), ⟨_, by simpa using up_eq _ _ _⟩, _, _, [0], N.grown kp, IntsAre.cons _ _ IntsAre.nil, rfl, by simp [valuesOf]⟩
  · rintro i m s₁ h' tk' ⟨a, b, c, its, q, ns, N', d⟩ kp
    exact ⟨a.set _ _, b, c, its, q, ns, news_move N' (fun p hp => by
      rw [List.mem_singleton.mp hp]; exact hnI) kp, d⟩
  · rintro i t' m s₁ E' hi ⟨hs₁, hm, ⟨tr, hmr⟩, its, q, ns, N, hits, hnl, hns⟩ F ⟨oI, hoI⟩
    refine hideQ (fun Q₁ hQ₁ => ?_)
    replace F : Fr s.heap L s₁.heap (up m "v" (.int (1 + (i : Nat)) t')) := F
    replace N := news_cons N hoI hIL hIg
    have hb : bitsOf (k / 2 ^ i) (n - i) = (if k / 2 ^ i % 2 = 1 then 1 else -1) :: bitsOf (k / 2 ^ (i + 1)) (n - (i + 1)) := by
      obtain ⟨j, hj⟩ : ∃ j, n - i = j + 1 := ⟨n - i - 1, by (first | lia | omega)⟩
      rw [hj, bitsOf, show n - (i + 1) = j by (first | lia | omega), Nat.div_div_eq_div_mul, Nat.pow_succ]
    have hmod : Int.fmod ((k / 2 ^ i : Nat) : Int) 2 = ((k / 2 ^ i % 2 : Nat) : Int) := by rw [Int.fmod_eq_emod_of_nonneg _ (by (first | lia | omega))]; (first | lia | omega)
    have hdiv : Int.fdiv ((k / 2 ^ i : Nat) : Int) 2 = ((k / 2 ^ (i + 1) : Nat) : Int) := by
      rw [Int.fdiv_eq_ediv_of_nonneg _ (by (first | lia | omega)), Nat.pow_succ, ← Nat.div_div_eq_div_mul]; (first | lia | omega)
    have hsz : its.length ≤ 10000 := by rw [hits.length, hnl]; (first | lia | omega)
    have fin : ∀ (x : Int) (s' : Shared) (q' : Nat) (m' : Str → Option Value) (its' : List Value) (tx tr : Tok), x = (if k / 2 ^ i % 2 = 1 then 1 else -1) → Same s s' → Fr s.heap L s'.heap m' → m' "values" = some (.ref D) →
        m' "rest" = some (.int ((k / 2 ^ (i + 1) : Nat) : Int) tr) → its' = its ++ [.int x tx] → News s.heap L s'.heap [(h.objs.size, oI), (D, listOf its'.toArray q')] →
        Q₁ .next s' := by
      intro x s' q' m' its' tx tr hx hsm F' hm1 hm2 hits' N'
      subst hits'
      refine hQ₁ .next _ ⟨m', F', news_at N' (List.mem_cons_self ..) hoI, hsm, hm1, ⟨tr, hm2⟩, _, q', ns ++ [x], news_sub N' (fun p hp => List.mem_cons_of_mem _ hp), IntsAre.append hits (IntsAre.cons _ _ IntsAre.nil), by simp [hnl], ?_⟩
      rw [← hns, hb, hx, List.append_assoc]; rfl
    (repeat (first | with_reducible refine wpAny_execs_cons ?_ | with_reducible refine wpAny_If ?_ | (with_reducible refine wpAny_isTrue_Compare1 ?_ (by with_unfolding_all rfl)) | with_reducible refine wpAny_BinOp ?_ | with_reducible refine z_int ?_ | ((with_reducible show wpAny _ _ (eval (Expr.Name _ _) _) _ _ _); (first | (refine nameX_L (v := _) F (by (repeat (first | with_reducible assumption | with_reducible exact up_eq _ _ _ | refine (up_ne (by decide)).trans ?_ | exact rfl))) ?_ rfl rfl (by decide)) | (refine nameX_C (c := _) (o := _) (v := _) N rfl (by k_mem) (by assumption) ?_ rfl rfl (by decide)) | (refine r_glob G F (by k_is) ?_ rfl rfl (by decide)) | (refine r_boot G F (by boot_fast) (by k_is) (by decide) ?_ rfl rfl (by decide))))))
    refine z_mod (by decide) ?_
    rw [hmod]
    (repeat (first | with_reducible refine z_int ?_ | with_reducible refine eq_int ?_ | with_reducible refine wpAny_truthy_bool ?_))
    refine split_bool (fun hc => ?_) (fun hc => ?_)
    · have hc' : k / 2 ^ i % 2 = 1 := by have : ((k / 2 ^ i % 2 : Nat) : Int) = 1 := by simpa using hc
                                         (first | lia | omega)
      (repeat (first | with_reducible refine wpAny_execs_cons ?_ | with_reducible refine z_int ?_ | ((with_reducible show wpAny _ _ (eval (Expr.Name _ _) _) _ _ _); (first | (refine nameX_L (v := _) F (by (repeat (first | with_reducible assumption | with_reducible exact up_eq _ _ _ | refine (up_ne (by decide)).trans ?_ | exact rfl))) ?_ rfl rfl (by decide)) | (refine nameX_C (c := _) (o := _) (v := _) N rfl (by k_mem) (by assumption) ?_ rfl rfl (by decide)) | (refine r_glob G F (by k_is) ?_ rfl rfl (by decide)) | (refine r_boot G F (by boot_fast) (by k_is) (by decide) ?_ rfl rfl (by decide)))) | (with_reducible refine args_cons ?_ rfl) | (with_reducible refine args_nil ?_) | ((with_reducible show wpAny _ _ (callWith _ (Value.builtin _) (_ :: _) _ []) _ _ _); refine callWith_method1 ?_ rfl rfl) | (with_reducible refine wpAny_Expr ?_ (by with_unfolding_all rfl) (by with_unfolding_all rfl)) | (with_reducible refine MethodCall_ (pl := _) ?_ (by with_unfolding_all rfl)) | ((with_reducible show wpAny _ _ (getMethod (Value.ref _) (Str.ofString "append") _) _ _ _); refine Calls.getMethod_list_append (o := _) (N.get (by k_mem)) rfl rfl ?_)))
      refine z_append F N (Upd.tail (Ne.symm hnI) (Upd.head (by simp))) hsz (fun h₂ F N hsb => ?_)
      (repeat (first | with_reducible refine wpAny_execs_cons ?_ | with_reducible refine wpAny_execs_nil ?_ | with_reducible refine wpAny_BinOp ?_ | with_reducible refine z_int ?_ | ((with_reducible show wpAny _ _ (eval (Expr.Name _ _) _) _ _ _); (first | (refine nameX_L (v := _) F (by (repeat (first | with_reducible assumption | with_reducible exact up_eq _ _ _ | refine (up_ne (by decide)).trans ?_ | exact rfl))) ?_ rfl rfl (by decide)) | (refine nameX_C (c := _) (o := _) (v := _) N rfl (by k_mem) (by assumption) ?_ rfl rfl (by decide)) | (refine r_glob G F (by k_is) ?_ rfl rfl (by decide)) | (refine r_boot G F (by boot_fast) (by k_is) (by decide) ?_ rfl rfl (by decide)))) | (with_reducible refine wpAny_Assign_Name ?_ (by with_unfolding_all rfl))))
      refine z_div (by decide) ?_ (Or.inl (PyProof.noPylong_small (by (first | lia | omega))))
      rw [hdiv]
      (repeat (first | with_reducible refine wpAny_execs_nil ?_ | ((with_reducible show wpAny _ _ (storeName _ _ _) _ _ _); (refine z_store F N ?_ rfl rfl; clear F N; intro h tk F N hg))))
      exact fin 1 _ _ _ _ _ _ (by rw [if_pos hc']) (hs₁.set _ _) F ((up_ne (by decide)).trans ((up_ne (by decide)).trans hm)) (up_eq _ _ _) rfl N
    · have hc' : ¬ (k / 2 ^ i % 2 = 1) := by have : ¬ ((k / 2 ^ i % 2 : Nat) : Int) = 1 := by simpa using hc
                                             (first | lia | omega)
      (repeat (first | with_reducible refine wpAny_execs_cons ?_ | with_reducible refine UnaryOp_ ?_ | with_reducible refine z_int ?_ | with_reducible refine z_neg ?_ | ((with_reducible show wpAny _ _ (eval (Expr.Name _ _) _) _ _ _); (first | (refine nameX_L (v := _) F (by (repeat (first | with_reducible assumption | with_reducible exact up_eq _ _ _ | refine (up_ne (by decide)).trans ?_ | exact rfl))) ?_ rfl rfl (by decide)) | (refine nameX_C (c := _) (o := _) (v := _) N rfl (by k_mem) (by assumption) ?_ rfl rfl (by decide)) | (refine r_glob G F (by k_is) ?_ rfl rfl (by decide)) | (refine r_boot G F (by boot_fast) (by k_is) (by decide) ?_ rfl rfl (by decide)))) | (with_reducible refine args_cons ?_ rfl) | (with_reducible refine args_nil ?_) | ((with_reducible show wpAny _ _ (callWith _ (Value.builtin _) (_ :: _) _ []) _ _ _); refine callWith_method1 ?_ rfl rfl) | (with_reducible refine wpAny_Expr ?_ (by with_unfolding_all rfl) (by with_unfolding_all rfl)) | (with_reducible refine MethodCall_ (pl := _) ?_ (by with_unfolding_all rfl)) | ((with_reducible show wpAny _ _ (getMethod (Value.ref _) (Str.ofString "append") _) _ _ _); refine Calls.getMethod_list_append (o := _) (N.get (by k_mem)) rfl rfl ?_)))
      refine z_append F N (Upd.tail (Ne.symm hnI) (Upd.head (by simp))) hsz (fun h₂ F N hsb => ?_)
      (repeat (first | with_reducible refine wpAny_execs_cons ?_ | with_reducible refine wpAny_execs_nil ?_ | with_reducible refine wpAny_BinOp ?_ | with_reducible refine z_int ?_ | ((with_reducible show wpAny _ _ (eval (Expr.Name _ _) _) _ _ _); (first | (refine nameX_L (v := _) F (by (repeat (first | with_reducible assumption | with_reducible exact up_eq _ _ _ | refine (up_ne (by decide)).trans ?_ | exact rfl))) ?_ rfl rfl (by decide)) | (refine nameX_C (c := _) (o := _) (v := _) N rfl (by k_mem) (by assumption) ?_ rfl rfl (by decide)) | (refine r_glob G F (by k_is) ?_ rfl rfl (by decide)) | (refine r_boot G F (by boot_fast) (by k_is) (by decide) ?_ rfl rfl (by decide)))) | (with_reducible refine wpAny_Assign_Name ?_ (by with_unfolding_all rfl))))
      refine z_div (by decide) ?_ (Or.inl (PyProof.noPylong_small (by (first | lia | omega))))
      rw [hdiv]
      (repeat (first | with_reducible refine wpAny_execs_nil ?_ | ((with_reducible show wpAny _ _ (storeName _ _ _) _ _ _); (refine z_store F N ?_ rfl rfl; clear F N; intro h tk F N hg))))
      exact fin (-1) _ _ _ _ _ _ (by rw [if_neg hc']) (hs₁.set _ _) F ((up_ne (by decide)).trans ((up_ne (by decide)).trans hm)) (up_eq _ _ _) rfl N
  · rintro m s₁ ⟨hs₁, hm, -, its, q, ns, N, hits, hnl, hns⟩ F
    rw [Nat.sub_self, show bitsOf (k / 2 ^ n) 0 = [] from rfl, List.append_nil] at hns
    subst hns
    show wpAny _ _ _ _ _ _
    (repeat (first | with_reducible refine wpAny_execs_cons ?_ | with_reducible refine wpAny_Return_some ?_ | ((with_reducible show wpAny _ _ (eval (Expr.Name _ _) _) _ _ _); (first | (refine nameX_L (v := _) F (by (repeat (first | with_reducible assumption | with_reducible exact up_eq _ _ _ | refine (up_ne (by decide)).trans ?_ | exact rfl))) ?_ rfl rfl (by decide)) | (refine nameX_C (c := _) (o := _) (v := _) N rfl (by k_mem) (by assumption) ?_ rfl rfl (by decide)) | (refine r_glob G F (by k_is) ?_ rfl rfl (by decide)) | (refine r_boot G F (by boot_fast) (by k_is) (by decide) ?_ rfl rfl (by decide))))))
    exact ret _ _ _ (hs₁.set _ _) F.keep ⟨_, N.get (List.mem_cons_self ..), rfl, _, rfl⟩ hits

theorem truth_table_ok {Q : Value → Shared → Prop} {a : Addr} {css : List (List Int)} {n : Nat} {t : Tok}
    (G : Gd (hd.heap_39 w.params) p loose mg mb s.heap) (R : Room A 4) (hcs : IsLL s.heap a css) (S : Small n css)
    (ret : ∀ s', Same s s' → Keep s.heap s'.heap → Q (.bool (truthTable css n)) s') :
    wpAny (model prog w) A (call (.ref 47) [.ref a, .int (n : Nat) t]) Q E s := by
  have hn3 := S.n3
  refine enter (g := s.heap) (binds := [("clauses", .ref a), ("n", .int (n : Nat) t)]) G (Keep.refl _) (Nat.le_refl _) (by k_is) (by k_is) R.room (BindsTo.of_eq rfl) (locs rfl) ?_ rfl rfl rfl (by decide)
  intro L h tk F hk hL
  have N : News s.heap L h [] := News.nil
  have h8 : (2 : Nat) ^ n ≤ 8 := Nat.pow_le_pow_right (by decide) hn3
  have hpw : (2 : Int) ^ ((n : Nat) : Int).toNat = ((2 ^ n : Nat) : Int) := by simp
  have hb1 : ((2 ^ n : Nat) : Int) ≤ 8 := Int.ofNat_le.mpr h8
  have hb0 : 0 ≤ ((2 ^ n : Nat) : Int) := Int.natCast_nonneg _
  (repeat (first | with_reducible refine wpAny_execs_cons ?_))
  refine wpAny_For ?_ (fun _ => rfl)
  (repeat (first | with_reducible refine wpAny_BinOp ?_ | with_reducible refine z_int ?_ | ((with_reducible show wpAny _ _ (eval (Expr.Name _ _) _) _ _ _); (first | (refine nameX_L (v := _) F (by (repeat (first | with_reducible assumption | with_reducible exact up_eq _ _ _ | refine (up_ne (by decide)).trans ?_ | exact rfl))) ?_ rfl rfl (by decide)) | (refine nameX_C (c := _) (o := _) (v := _) N rfl (by k_mem) (by assumption) ?_ rfl rfl (by decide)) | (refine r_glob G F (by k_is) ?_ rfl rfl (by decide)) | (refine r_boot G F (by boot_fast) (by k_is) (by decide) ?_ rfl rfl (by decide)))) | (with_reducible refine args_cons ?_ rfl) | ((with_reducible show wpAny _ _ (callWith _ (Value.type _) [] _ []) _ _ _); refine Pv.callWith_type1 ?_ rfl rfl) | (with_reducible refine Call_ ?_ rfl)))
  refine z_pow (by (first | lia | omega)) (by (first | lia | omega)) (by decide) ?_
  rw [hpw]
  (repeat (first | (with_reducible refine args_nil ?_)))
  (refine z_range1 F N ?_; clear F N; intro r h tk t0 u0 v0 F N hr hkr)
  refine for_range (n := 2 ^ n) (fun i m s' => Same s s' ∧ m "clauses" = some (.ref a) ∧ (∃ t, m "n" = some (.int (n : Nat) t)) ∧ (List.range i).any (fun k => satisfies (valuesOf k n) css) = false)
    R.handled hr (sm0 (Nat.le_trans h8 (by decide))) (sz0 _) rfl rfl F ?_ ?_ ?_ ?_
  · intro h' tk' kp
    exact ⟨Same.of _ _ _, rfl, ⟨_, rfl⟩, by simp⟩
  · rintro i m s₁ h' tk' ⟨a, b, c, d⟩ kp
    exact ⟨a.set _ _, b, c, d⟩
  · rintro i t' m s₁ E' hi ⟨hs₁, hm, ⟨tn, hmn⟩, hany⟩ F -
    refine hideQ (fun Q₁ hQ₁ => ?_)
    replace F : Fr s.heap L s₁.heap (up m "k" (.int (0 + (i : Nat)) t')) := F
    have N : News s.heap L s₁.heap [] := News.nil
    have e0 : (0 : Int) + (i : Nat) = (i : Nat) := by (first | lia | omega)
    rw [e0] at F
    (repeat (first | with_reducible refine wpAny_execs_cons ?_ | with_reducible refine wpAny_If ?_ | ((with_reducible show wpAny _ _ (eval (Expr.Name _ _) _) _ _ _); (first | (refine nameX_L (v := _) F (by (repeat (first | with_reducible assumption | with_reducible exact up_eq _ _ _ | refine (up_ne (by decide)).trans ?_ | exact rfl))) ?_ rfl rfl (by decide)) | (refine nameX_C (c := _) (o := _) (v := _) N rfl (by k_mem) (by assumption) ?_ rfl rfl (by decide)) | (refine r_glob G F (by k_is) ?_ rfl rfl (by decide)) | (refine r_boot G F (by boot_fast) (by k_is) (by decide) ?_ rfl rfl (by decide)))) | (with_reducible refine args_cons ?_ rfl) | (with_reducible refine args_nil ?_) | ((with_reducible show Keep _ _ ∧ _); refine And.intro F.keep ?_) | ((with_reducible show wpAny _ _ (callWith _ (Value.ref _) [] _ []) _ _ _); refine r_callf G (by k_is) ?_ rfl rfl) | (with_reducible refine Call_ ?_ rfl) | (with_reducible refine isTrue_plain ?_ (by with_unfolding_all rfl))))
    refine values_ok (G.keeps F.keep) ((R.less (by decide)).deeper _) hn3 (fun D its s' sm kp hD hits => ?_)
    replace F := F.keeps kp
    replace N := N.grown kp
    (repeat (first | ((with_reducible show wpAny _ _ (eval (Expr.Name _ _) _) _ _ _); (first | (refine nameX_L (v := _) F (by (repeat (first | with_reducible assumption | with_reducible exact up_eq _ _ _ | refine (up_ne (by decide)).trans ?_ | exact rfl))) ?_ rfl rfl (by decide)) | (refine nameX_C (c := _) (o := _) (v := _) N rfl (by k_mem) (by assumption) ?_ rfl rfl (by decide)) | (refine r_glob G F (by k_is) ?_ rfl rfl (by decide)) | (refine r_boot G F (by boot_fast) (by k_is) (by decide) ?_ rfl rfl (by decide)))) | (with_reducible refine args_cons ?_ rfl) | (with_reducible refine args_nil ?_) | ((with_reducible show Keep _ _ ∧ _); refine And.intro F.keep ?_)))
    refine satisfies_ok (G.keeps F.keep) (R.deeper _) hD hits (by simp [valuesOf, bitsOf_length]) (hcs.keep F.keep) S (fun s₂ sm₂ kp₂ => ?_)
    replace F := F.keeps kp₂
    replace N := N.grown kp₂
    (repeat (first | with_reducible refine wpAny_truthy_bool ?_))
    refine split_bool (fun hc => ?_) (fun hc => ?_)
    · (repeat (first | with_reducible refine wpAny_execs_cons ?_ | with_reducible refine wpAny_Return_some ?_ | with_reducible refine Constant_bool ?_))
      have e : truthTable css n = true := by
        unfold truthTable
        exact List.any_eq_true.mpr ⟨i, List.mem_range.mpr hi, hc⟩
      rw [e] at ret
      exact hQ₁ (.ret _) _ (ret _ (((hs₁.trans sm).trans sm₂).set _ _) F.keep)
    · (repeat (first | with_reducible refine wpAny_execs_nil ?_))
      refine hQ₁ .next _ ⟨_, F, fun o e => kp₂ _ _ (kp _ _ e), ((hs₁.trans sm).trans sm₂).set _ _, (up_ne (by decide)).trans hm, ⟨tn, (up_ne (by decide)).trans hmn⟩, ?_⟩
      rw [List.range_succ, List.any_append, hany]
      simpa using hc
  · rintro m s₁ ⟨hs₁, hm, -, hany⟩ F
    have N : News s.heap L s₁.heap [] := News.nil
    show wpAny _ _ _ _ _ _
    (repeat (first | with_reducible refine wpAny_execs_cons ?_ | with_reducible refine wpAny_Return_some ?_ | with_reducible refine Constant_bool ?_))
    rw [show truthTable css n = false from hany] at ret
    exact ret _ (hs₁.set _ _) F.keep
end
end Mine
namespace Mine
/-- a Trail's own names -/
abbrev tEs (P : Params) (t₁ t₂ t₃ t₄ t₅ : Tok) (n : Int) (aW aO aM : Addr) : List DictEntry :=
  [⟨PyData.keyHash P "n", .str "n" t₁, .int n t₅⟩, ⟨PyData.keyHash P "worths", .str "worths" t₂, .ref aW⟩, ⟨PyData.keyHash P "order", .str "order" t₃, .ref aO⟩, ⟨PyData.keyHash P "marks", .str "marks" t₄, .ref aM⟩]
def TrailAt (P : Params) (h : Heap) (x : Addr) (n : Nat) (aW aO aM : Addr) : Prop :=
  ∃ dx t₁ t₂ t₃ t₄ t₅, h.get? x = some (instObj 111 dx) ∧ h.get? dx = some (dictOf (tEs P t₁ t₂ t₃ t₄ t₅ (n : Nat) aW aO aM) 4)
theorem TrailAt.keep {P : Params} {h h' : Heap} {x : Addr} {n : Nat} {aW aO aM : Addr} (T : TrailAt P h x n aW aO aM) (k : Keep h h') : TrailAt P h' x n aW aO aM :=
  let ⟨dx, t₁, t₂, t₃, t₄, t₅, a, b⟩ := T; ⟨dx, t₁, t₂, t₃, t₄, t₅, k _ _ a, k _ _ b⟩
/-- lists of ints lie apart from it -/
theorem TrailAt.hid {P : Params} {h : Heap} {x : Addr} {n : Nat} {aW aO aM : Addr} {as : List Addr} (T : TrailAt P h x n aW aO aM) (ha : ∀ a ∈ as, ∃ ns, LsAt h a ns) : TrailAt P (hideAll h as) x n aW aO aM := by
  obtain ⟨dx, t₁, t₂, t₃, t₄, t₅, a, b⟩ := T
  refine ⟨dx, t₁, t₂, t₃, t₄, t₅, hideAll_get as a fun hm => ?_, hideAll_get as b fun hm => ?_⟩
  · obtain ⟨ns, vs, q, e, _⟩ := ha _ hm
    rw [a] at e; cases congrArg Obj.data (Option.some.inj e)
  · obtain ⟨ns, vs, q, e, _⟩ := ha _ hm
    rw [b] at e; cases congrArg Obj.data (Option.some.inj e)

theorem ll_hid {h : Heap} {a : Addr} {css : List (List Int)} {as : List Addr} (x : IsLL h a css) (hn : ∀ b ∈ as, b ≠ a) (hn' : ∀ b ∈ as, ∀ vs, h.IsList a vs → .ref b ∉ vs.toList) : IsLL (hideAll h as) a css := by
  obtain ⟨vs, hl, hp⟩ := x
  have ho := hn' 
  refine ⟨vs, hl.at fun o e => hideAll_get as e fun hm => hn a hm rfl, ?_⟩
  have key : ∀ {vs : List Value} {css : List (List Int)}, Paired (IsI h) vs css → (∀ b ∈ as, Value.ref b ∉ vs) → Paired (IsI (hideAll h as)) vs css := by
    intro vs css hp
    induction hp with
    | nil => intro _; exact .nil
    | cons r t ih =>
      intro hq
      obtain ⟨b, its, e, hl, hi⟩ := r
      refine .cons ⟨b, its, e, hl.at fun o e' => hideAll_get as e' fun hm => hq b hm (by rw [e]; exact List.mem_cons_self ..), hi⟩ (ih fun b hb hm => hq b hb (List.mem_cons_of_mem _ hm))
  exact key hp fun b hb hm => hn' b hb _ hl (by simpa using hm)

section
variable {prog : Program} {w : World} {A : Around} {E : Value → Shared → Prop} {s : Shared} {p : Program} {loose : List Str} {mg mb : Str → Option Value}

theorem assign_ok {Q : Value → Shared → Prop} {x aW aO aM : Addr} {W O : List Int} {n : Nat} {lit : Int} {t : Tok}
    (G : Gd (hd.heap_39 w.params) p loose mg mb (hideAll s.heap [aW, aO])) (R : Room A 1) (T : TrailAt w.params s.heap x n aW aO aM) (hWO : aW ≠ aO) (hW : LsAt s.heap aW W) (hO : LsAt s.heap aO O)
    (hv : Valid n lit) (hlen : W.length = n + 1) (hn : n ≤ 3) (hol : O.length ≤ 1000)
    (ret : ∀ s', Same s s' → Keep (hideAll s.heap [aW, aO]) s'.heap → LsAt s'.heap aW (setW W lit) → LsAt s'.heap aO (O ++ [lit]) → Q .none s') :
    wpAny (model prog w) A (call (.ref 75) [.ref x, .int lit t]) Q E s := by
  have T' := T.hid (as := [aW, aO]) (fun a ha => by
    rcases List.mem_cons.mp ha with q | q
    · exact ⟨W, q ▸ hW⟩
    · exact ⟨O, List.mem_singleton.mp q ▸ hO⟩)
  obtain ⟨dx, t₁, t₂, t₃, t₄, t₅, hx, hdx⟩ := T'
  obtain ⟨vW, qW, eW, iW⟩ := hW
  obtain ⟨vO, qO, eO, iO⟩ := hO
  obtain ⟨hv1, hv2⟩ := hv
  refine enter (g := hideAll s.heap [aW, aO]) (binds := [("self", .ref x), ("lit", .int lit t)]) G (keep_hide _) (Nat.le_of_eq (hideAll_size _ _)) (by k_is) (by k_is) R.room (BindsTo.of_eq rfl) (locs rfl) ?_ rfl rfl rfl (by decide)
  intro L h tk F hk hL
  have N : News (hideAll s.heap [aW, aO]) L h [(aW, listOf vW.toArray qW), (aO, listOf vO.toArray qO)] :=
    news_cons (news_cons News.nil (hk _ _ eO) (Nat.ne_of_lt (Nat.lt_of_lt_of_le (Heap.lt_size eO) hL)) (hideAll_none _ (by simp))) (hk _ _ eW) (Nat.ne_of_lt (Nat.lt_of_lt_of_le (Heap.lt_size eW) hL)) (hideAll_none _ (by simp))
  (repeat (first | with_reducible refine wpAny_execs_cons ?_ | with_reducible refine wpAny_If ?_ | (with_reducible refine wpAny_isTrue_Compare1 ?_ (by with_unfolding_all rfl)) | with_reducible refine z_int ?_ | with_reducible refine gt_int ?_ | with_reducible refine wpAny_truthy_bool ?_ | ((with_reducible show wpAny _ _ (eval (Expr.Name _ _) _) _ _ _); (first | (refine nameX_L (v := _) F (by (repeat (first | with_reducible assumption | with_reducible exact up_eq _ _ _ | refine (up_ne (by decide)).trans ?_ | exact rfl))) ?_ rfl rfl (by decide)) | (refine nameX_C (c := _) (o := _) (v := _) N rfl (by k_mem) (by assumption) ?_ rfl rfl (by decide)) | (refine r_glob G F (by k_is) ?_ rfl rfl (by decide)) | (refine r_boot G F (by boot_fast) (by k_is) (by decide) ?_ rfl rfl (by decide))))))
  refine split_bool (fun hc => ?_) (fun hc => ?_)
  · have hc' : 0 < lit := by simpa using hc
    (repeat (first | with_reducible refine wpAny_execs_cons ?_ | with_reducible refine z_int ?_ | ((with_reducible show wpAny _ _ (eval (Expr.Name _ _) _) _ _ _); (first | (refine nameX_L (v := _) F (by (repeat (first | with_reducible assumption | with_reducible exact up_eq _ _ _ | refine (up_ne (by decide)).trans ?_ | exact rfl))) ?_ rfl rfl (by decide)) | (refine nameX_C (c := _) (o := _) (v := _) N rfl (by k_mem) (by assumption) ?_ rfl rfl (by decide)) | (refine r_glob G F (by k_is) ?_ rfl rfl (by decide)) | (refine r_boot G F (by boot_fast) (by k_is) (by decide) ?_ rfl rfl (by decide)))) | (with_reducible refine wpAny_Assign_Subscript ?_ (by with_unfolding_all rfl)) | (with_reducible refine Attribute_any_ ?_ (by with_unfolding_all rfl)) | ((with_reducible show wpAny _ _ (getAttr (Value.ref _) _ _) _ _ _); refine z_attr (attr := _) (v := _) G F (F.keep _ _ (by with_reducible assumption)) (by first | exact F.keep _ _ (by with_reducible assumption) | exact N.get (by k_mem)) (by k_is) (by k_is) (by k_is) (by k_is) (by k_get) rfl (fun tk => ?_))))
    refine z_set F N (Upd.head (by simpa using Ne.symm hWO)) iW (by (first | lia | omega)) (by (first | lia | omega)) (by (first | lia | omega)) (fun h F N iW => ?_)
    (repeat (first | with_reducible refine wpAny_execs_cons ?_ | with_reducible refine wpAny_execs_nil ?_ | ((with_reducible show wpAny _ _ (eval (Expr.Name _ _) _) _ _ _); (first | (refine nameX_L (v := _) F (by (repeat (first | with_reducible assumption | with_reducible exact up_eq _ _ _ | refine (up_ne (by decide)).trans ?_ | exact rfl))) ?_ rfl rfl (by decide)) | (refine nameX_C (c := _) (o := _) (v := _) N rfl (by k_mem) (by assumption) ?_ rfl rfl (by decide)) | (refine r_glob G F (by k_is) ?_ rfl rfl (by decide)) | (refine r_boot G F (by boot_fast) (by k_is) (by decide) ?_ rfl rfl (by decide)))) | (with_reducible refine args_cons ?_ rfl) | (with_reducible refine args_nil ?_) | ((with_reducible show wpAny _ _ (callWith _ (Value.builtin _) (_ :: _) _ []) _ _ _); refine callWith_method1 ?_ rfl rfl) | (with_reducible refine wpAny_Expr ?_ (by with_unfolding_all rfl) (by with_unfolding_all rfl)) | (with_reducible refine MethodCall_ (pl := _) ?_ (by with_unfolding_all rfl)) | ((with_reducible show wpAny _ _ (getMethod (Value.ref _) (Str.ofString "append") _) _ _ _); refine Calls.getMethod_list_append (o := _) (N.get (by k_mem)) rfl rfl ?_) | (with_reducible refine Attribute_any_ ?_ (by with_unfolding_all rfl)) | ((with_reducible show wpAny _ _ (getAttr (Value.ref _) _ _) _ _ _); refine z_attr (attr := _) (v := _) G F (F.keep _ _ (by with_reducible assumption)) (by first | exact F.keep _ _ (by with_reducible assumption) | exact N.get (by k_mem)) (by k_is) (by k_is) (by k_is) (by k_is) (by k_get) rfl (fun tk => ?_))))
    refine z_append F N (Upd.tail hWO (Upd.head (by simp))) (by rw [iO.length]; (first | lia | omega)) (fun h F N _ => ?_)
    (repeat (first | with_reducible refine wpAny_execs_nil ?_))
    refine ret _ (Same.of _ _ _) F.keep ⟨_, _, N.get (List.mem_cons_self ..), ?_⟩ ⟨_, _, N.get (List.mem_cons_of_mem _ (List.mem_cons_self ..)), IntsAre.append iO (IntsAre.cons _ _ IntsAre.nil)⟩
    unfold setW; rw [if_pos hc']; exact iW
  · have hc' : ¬ 0 < lit := by simpa using hc
    (repeat (first | with_reducible refine wpAny_execs_cons ?_ | with_reducible refine UnaryOp_ ?_ | with_reducible refine z_int ?_ | with_reducible refine z_neg ?_ | ((with_reducible show wpAny _ _ (eval (Expr.Name _ _) _) _ _ _); (first | (refine nameX_L (v := _) F (by (repeat (first | with_reducible assumption | with_reducible exact up_eq _ _ _ | refine (up_ne (by decide)).trans ?_ | exact rfl))) ?_ rfl rfl (by decide)) | (refine nameX_C (c := _) (o := _) (v := _) N rfl (by k_mem) (by assumption) ?_ rfl rfl (by decide)) | (refine r_glob G F (by k_is) ?_ rfl rfl (by decide)) | (refine r_boot G F (by boot_fast) (by k_is) (by decide) ?_ rfl rfl (by decide)))) | (with_reducible refine wpAny_Assign_Subscript ?_ (by with_unfolding_all rfl)) | (with_reducible refine Attribute_any_ ?_ (by with_unfolding_all rfl)) | ((with_reducible show wpAny _ _ (getAttr (Value.ref _) _ _) _ _ _); refine z_attr (attr := _) (v := _) G F (F.keep _ _ (by with_reducible assumption)) (by first | exact F.keep _ _ (by with_reducible assumption) | exact N.get (by k_mem)) (by k_is) (by k_is) (by k_is) (by k_is) (by k_get) rfl (fun tk => ?_))))
    refine z_set F N (Upd.head (by simpa using Ne.symm hWO)) iW (by (first | lia | omega)) (by (first | lia | omega)) (by (first | lia | omega)) (fun h F N iW => ?_)
    (repeat (first | with_reducible refine wpAny_execs_cons ?_ | with_reducible refine wpAny_execs_nil ?_ | ((with_reducible show wpAny _ _ (eval (Expr.Name _ _) _) _ _ _); (first | (refine nameX_L (v := _) F (by (repeat (first | with_reducible assumption | with_reducible exact up_eq _ _ _ | refine (up_ne (by decide)).trans ?_ | exact rfl))) ?_ rfl rfl (by decide)) | (refine nameX_C (c := _) (o := _) (v := _) N rfl (by k_mem) (by assumption) ?_ rfl rfl (by decide)) | (refine r_glob G F (by k_is) ?_ rfl rfl (by decide)) | (refine r_boot G F (by boot_fast) (by k_is) (by decide) ?_ rfl rfl (by decide)))) | (with_reducible refine args_cons ?_ rfl) | (with_reducible refine args_nil ?_) | ((with_reducible show wpAny _ _ (callWith _ (Value.builtin _) (_ :: _) _ []) _ _ _); refine callWith_method1 ?_ rfl rfl) | (with_reducible refine wpAny_Expr ?_ (by with_unfolding_all rfl) (by with_unfolding_all rfl)) | (with_reducible refine MethodCall_ (pl := _) ?_ (by with_unfolding_all rfl)) | ((with_reducible show wpAny _ _ (getMethod (Value.ref _) (Str.ofString "append") _) _ _ _); refine Calls.getMethod_list_append (o := _) (N.get (by k_mem)) rfl rfl ?_) | (with_reducible refine Attribute_any_ ?_ (by with_unfolding_all rfl)) | ((with_reducible show wpAny _ _ (getAttr (Value.ref _) _ _) _ _ _); refine z_attr (attr := _) (v := _) G F (F.keep _ _ (by with_reducible assumption)) (by first | exact F.keep _ _ (by with_reducible assumption) | exact N.get (by k_mem)) (by k_is) (by k_is) (by k_is) (by k_is) (by k_get) rfl (fun tk => ?_))))
    refine z_append F N (Upd.tail hWO (Upd.head (by simp))) (by rw [iO.length]; (first | lia | omega)) (fun h F N _ => ?_)
    (repeat (first | with_reducible refine wpAny_execs_nil ?_))
    refine ret _ (Same.of _ _ _) F.keep ⟨_, _, N.get (List.mem_cons_self ..), ?_⟩ ⟨_, _, N.get (List.mem_cons_of_mem _ (List.mem_cons_self ..)), IntsAre.append iO (IntsAre.cons _ _ IntsAre.nil)⟩
    unfold setW; rw [if_neg hc']; exact iW
end
end Mine
namespace Mine
section
variable {prog : Program} {w : World} {A : Around} {E : Value → Shared → Prop} {s : Shared} {p : Program} {loose : List Str} {mg mb : Str → Option Value}

theorem drop_at {α : Type} {l : List α} {i : Nat} {c : α} (h : l[i]? = some c) : l.drop i = c :: l.drop (i + 1) := by
  obtain ⟨hi, e⟩ := List.getElem?_eq_some_iff.mp h
  rw [← e]; exact List.drop_eq_getElem_cons hi

theorem prop_fls {css : List (List Int)} {W O W₂ O₂ : List Int} {k : Nat} (h : roundF css W O false = (W₂, O₂, none)) : propF (k + 1) css W O = (W₂, O₂, false) := by
  unfold propF; rw [h]
theorem prop_stop {css : List (List Int)} {W O W₂ O₂ : List Int} {k : Nat} (h : roundF css W O false = (W₂, O₂, some false)) : propF (k + 1) css W O = (W₂, O₂, true) := by
  unfold propF; rw [h]
theorem prop_go {css : List (List Int)} {W O W₂ O₂ : List Int} {k : Nat} (h : roundF css W O false = (W₂, O₂, some true)) : propF (k + 1) css W O = propF k css W₂ O₂ := by
  rw [propF, h]
theorem isFls_eq {c : CS} (h : c.isFls = true) : c = .fls := by cases c <;> first | rfl | cases h
theorem isUnit_eq {c : CS} (h : c.isUnit = true) : ∃ l, c = .unit l := by cases c <;> first | exact ⟨_, rfl⟩ | cases h

theorem news_wo {g h h' : Heap} {L aW aO : Addr} (pre : List (Addr × Obj)) {x y x' y' : Obj} (N : News g L h (pre ++ [(aW, x), (aO, y)])) (k : Keep (hideAll h [aW, aO]) h') (hp : ∀ p ∈ pre, p.1 ≠ aW ∧ p.1 ≠ aO)
    (eW : h'.get? aW = some x') (eO : h'.get? aO = some y') : News g L h' (pre ++ [(aW, x'), (aO, y')]) := by
  intro p hp'
  rcases List.mem_append.mp hp' with q | q
  · have z := N p (List.mem_append_left _ q)
    refine ⟨hid_keep k z.1 ?_, z.2⟩
    simp only [List.mem_cons, List.not_mem_nil, or_false, not_or]
    exact hp p q
  · rcases List.mem_cons.mp q with r | r
    · subst r; exact ⟨eW, (N (aW, x) (by simp)).2⟩
    · rw [List.mem_singleton.mp r]; exact ⟨eO, (N (aO, y) (by simp)).2⟩

theorem propagate_ok {Q : Value → Shared → Prop} {x a aW aO aM : Addr} {W O : List Int} {css : List (List Int)} {n : Nat}
    (G : Gd (hd.heap_39 w.params) p loose mg mb (hideAll s.heap [aW, aO])) (R : Room A 3) (T : TrailAt w.params s.heap x n aW aO aM) (hWO : aW ≠ aO) (hW : LsAt s.heap aW W) (hO : LsAt s.heap aO O)
    (hcs : IsLL (hideAll s.heap [aW, aO]) a css) (S : Small n css) (tr : Tr n W O)
    (ret : ∀ s', Same s s' → Keep (hideAll s.heap [aW, aO]) s'.heap → LsAt s'.heap aW (propF (n + 1) css W O).1 → LsAt s'.heap aO (propF (n + 1) css W O).2.1 → Q (.bool (propF (n + 1) css W O).2.2) s') :
    wpAny (model prog w) A (call (.ref 122) [.ref x, .ref a]) Q E s := by
  have hn3 := S.n3
  have T' := T.hid (as := [aW, aO]) (fun a ha => by
    rcases List.mem_cons.mp ha with q | q
    · exact ⟨W, q ▸ hW⟩
    · exact ⟨O, List.mem_singleton.mp q ▸ hO⟩)
  obtain ⟨cvs, hca, hcp⟩ := hcs
  have hlen : cvs.toArray.size = css.length := by simp [paired_len hcp]
  have TT := T'
  obtain ⟨dx, t₁, t₂, t₃, t₄, t₅, hx, hdx⟩ := T'
  obtain ⟨vW, qW, eW, iW⟩ := hW
  obtain ⟨vO, qO, eO, iO⟩ := hO
  have gW : (hideAll s.heap [aW, aO]).get? aW = none := hideAll_none _ (by simp)
  have gO : (hideAll s.heap [aW, aO]).get? aO = none := hideAll_none _ (by simp)
  have gWO : ∀ b ∈ [aW, aO], (hideAll s.heap [aW, aO]).get? b = none := fun b hb => hideAll_none _ hb
  refine enter (g := hideAll s.heap [aW, aO]) (binds := [("trail", .ref x), ("clauses", .ref a)]) G (keep_hide _) (Nat.le_of_eq (hideAll_size _ _)) (by k_is) (by k_is) R.room (BindsTo.of_eq rfl) (locs rfl) ?_ rfl rfl rfl (by decide)
  intro L h tk F hk hL
  have LW : aW ≠ L := Nat.ne_of_lt (Nat.lt_of_lt_of_le (Heap.lt_size eW) hL)
  have LO : aO ≠ L := Nat.ne_of_lt (Nat.lt_of_lt_of_le (Heap.lt_size eO) hL)
  have LWO : L ∉ [aW, aO] := by simp only [List.mem_cons, List.not_mem_nil, or_false, not_or]; exact ⟨Ne.symm LW, Ne.symm LO⟩
  have haL : a ≠ L := fun q => by
    have := list_lt hca
    rw [hideAll_size, q] at this; exact Nat.lt_irrefl _ (Nat.lt_of_lt_of_le this hL)
  have N : News (hideAll s.heap [aW, aO]) L h [(aW, listOf vW.toArray qW), (aO, listOf vO.toArray qO)] :=
    news_cons (news_cons News.nil (hk _ _ eO) LO gO) (hk _ _ eW) LW gW
  clear eW eO hk T
  generalize hideAll s.heap [aW, aO] = g at *
  refine hideQ (fun Q₀ hQ₀ => ?_)
  (repeat (first | with_reducible refine wpAny_execs_cons ?_))
  refine wpAny_For ?_ (fun _ => rfl)
  (repeat (first | with_reducible refine wpAny_BinOp ?_ | with_reducible refine z_int ?_ | with_reducible refine z_add ?_ | ((with_reducible show wpAny _ _ (eval (Expr.Name _ _) _) _ _ _); (first | (refine nameX_L (v := _) F (by (repeat (first | with_reducible assumption | with_reducible exact up_eq _ _ _ | refine (up_ne (by decide)).trans ?_ | exact rfl))) ?_ rfl rfl (by decide)) | (refine nameX_C (c := _) (o := _) (v := _) N rfl (by k_mem) (by assumption) ?_ rfl rfl (by decide)) | (refine r_glob G F (by k_is) ?_ rfl rfl (by decide)) | (refine r_boot G F (by boot_fast) (by k_is) (by decide) ?_ rfl rfl (by decide)))) | (with_reducible refine args_cons ?_ rfl) | (with_reducible refine args_nil ?_) | ((with_reducible show wpAny _ _ (callWith _ (Value.type _) [] _ []) _ _ _); refine Pv.callWith_type1 ?_ rfl rfl) | (with_reducible refine Call_ ?_ rfl) | (with_reducible refine Attribute_any_ ?_ (by with_unfolding_all rfl)) | ((with_reducible show wpAny _ _ (getAttr (Value.ref _) _ _) _ _ _); refine z_attr (attr := _) (v := _) G F (F.keep _ _ (by with_reducible assumption)) (by first | exact F.keep _ _ (by with_reducible assumption) | exact N.get (by k_mem)) (by k_is) (by k_is) (by k_is) (by k_is) (by k_get) rfl (fun tk => ?_))))
  (refine z_range1 F N ?_; clear F N; intro r h tk t0 u0 v0 F N hr hkr)
  have nW : aW ≠ h.objs.size := news_ne N _ (List.mem_cons_self ..)
  have nO : aO ≠ h.objs.size := news_ne N _ (List.mem_cons_of_mem _ (List.mem_cons_self ..))
  have hIL := ne_frame F
  have hIg := fresh_of F.keep
  refine for_range (n := n + 1) (fun i m s' => Same s s' ∧ m "trail" = some (.ref x) ∧ m "clauses" = some (.ref a) ∧ ∃ W' O' vW qW vO qO,
      News g L s'.heap [(aW, listOf vW.toArray qW), (aO, listOf vO.toArray qO)] ∧ IntsAre vW W' ∧ IntsAre vO O' ∧ Tr n W' O' ∧ propF (n + 1) css W O = propF (n + 1 - i) css W' O')
    R.handled hr (sm0 (n := n + 1) (Nat.le_trans (Nat.succ_le_succ hn3) (by decide))) (sz0 (n + 1)) rfl rfl F ?_ ?_ ?_ ?_
  · intro h' tk' kp
    exact ⟨Same.of _ _ _, rfl, rfl, W, O, _, _, _, _, N.grown kp, iW, iO, tr, rfl⟩
  · rintro i m s₁ h' tk' ⟨a, b, c, W', O', vW, qW, vO, qO, N', d⟩ kp
    refine ⟨a.set _ _, b, c, W', O', vW, qW, vO, qO, news_move N' (fun p hp => ?_) kp, d⟩
    rcases List.mem_cons.mp hp with q | q
    · rw [q]; exact nW
    · rw [List.mem_singleton.mp q]; exact nO
  · rintro i t' m s₁ E' hi ⟨hs₁, hm1, hm2, W', O', vW, qW, vO, qO, N, iW, iO, tr', hpf⟩ F ⟨oI, hoI⟩
    replace F : Fr g L s₁.heap (up m "walk" (.int (0 + (i : Nat)) t')) := F
    replace N := news_cons N hoI hIL hIg
    obtain ⟨I, hI⟩ : ∃ I, I = h.objs.size := ⟨_, rfl⟩
    rw [← hI] at N hIL hIg nW nO hoI ⊢
    clear hr hkr
    refine hideQ (fun Q₁ hQ₁ => ?_)
    (repeat (first | with_reducible refine wpAny_execs_cons ?_ | with_reducible refine Constant_bool ?_ | (with_reducible refine wpAny_Assign_Name ?_ (by with_unfolding_all rfl)) | ((with_reducible show wpAny _ _ (storeName _ _ _) _ _ _); (refine z_store F N ?_ rfl rfl; clear F N; intro h tk F N hg))))
    refine wpAny_For ?_ (fun _ => rfl)
    (repeat (first | ((with_reducible show wpAny _ _ (eval (Expr.Name _ _) _) _ _ _); (first | (refine nameX_L (v := _) F (by (repeat (first | with_reducible assumption | with_reducible exact up_eq _ _ _ | refine (up_ne (by decide)).trans ?_ | exact rfl))) ?_ rfl rfl (by decide)) | (refine nameX_C (c := _) (o := _) (v := _) N rfl (by k_mem) (by assumption) ?_ rfl rfl (by decide)) | (refine r_glob G F (by k_is) ?_ rfl rfl (by decide)) | (refine r_boot G F (by boot_fast) (by k_is) (by decide) ?_ rfl rfl (by decide))))))
    obtain ⟨k, hk⟩ : ∃ k, n + 1 - i = k + 1 := ⟨n - i, by (first | lia | omega)⟩
    rw [hk] at hpf
    have nI : I ≠ h.objs.size := news_ne N _ (List.mem_cons_self ..)
    have nW' : aW ≠ h.objs.size := news_ne N _ (List.mem_cons_of_mem _ (List.mem_cons_self ..))
    have nO' : aO ≠ h.objs.size := news_ne N _ (List.mem_cons_of_mem _ (List.mem_cons_of_mem _ (List.mem_cons_self ..)))
    have hJL := ne_frame F
    have hJg := fresh_of F.keep
    refine for_list (items := cvs.toArray) (fun j m s' => Same s s' ∧ m "trail" = some (.ref x) ∧ m "clauses" = some (.ref a) ∧ ∃ W₂ O₂ vW qW vO qO mv,
        News g L s'.heap [(I, oI), (aW, listOf vW.toArray qW), (aO, listOf vO.toArray qO)] ∧ IntsAre vW W₂ ∧ IntsAre vO O₂ ∧ Tr n W₂ O₂ ∧ m "moved" = some (.bool mv) ∧ roundF css W' O' false = roundF (css.drop j) W₂ O₂ mv)
      R.handled (stays_list F.keep hca) haL rfl rfl F ?_ ?_ ?_ ?_
    · intro h' tk' kp
      exact ⟨hs₁.set _ _, (up_ne (by decide)).trans ((up_ne (by decide)).trans hm1), (up_ne (by decide)).trans ((up_ne (by decide)).trans hm2), W', O', _, _, _, _, false, N.grown kp, iW, iO, tr', up_eq _ _ _, rfl⟩
    · rintro j m s₁ h' tk' ⟨a, b, c, W₂, O₂, vW, qW, vO, qO, mv, N', d⟩ kp
      refine ⟨a.set _ _, b, c, W₂, O₂, vW, qW, vO, qO, mv, news_move N' (fun p hp => ?_) kp, d⟩
      rcases List.mem_cons.mp hp with q | hp
      · rw [q]; exact nI
      · rcases List.mem_cons.mp hp with q | q
        · rw [q]; exact nW'
        · rw [List.mem_singleton.mp q]; exact nO'
    · rintro j y m s₂ E₂ hy ⟨hs₂, hm1, hm2, W₂, O₂, vW, qW, vO, qO, mv, N, iW, iO, tr₂, hmv, hrf⟩ F - ⟨oJ, hoJ⟩
      obtain ⟨b, its, c, rfl, hc, hmem, hbl, hbi⟩ := ll_at hcp hy
      replace F : Fr g L s₂.heap (up m "clause" (.ref b)) := F
      obtain ⟨J, hJ⟩ : ∃ J, J = h.objs.size := ⟨_, rfl⟩
      rw [← hJ] at hJL hJg nI nW' nO' hoJ ⊢
      replace N := news_cons N hoJ hJL hJg
      rw [drop_at hc] at hrf
      refine hideQ (fun Q₂ hQ₂ => ?_)
      have fin : ∀ (s' : Shared) (m' : Str → Option Value) (W₃ O₃ : List Int) (vW : List Value) (qW : Nat) (vO : List Value) (qO : Nat) (mv : Bool), Same s s' → Fr g L s'.heap m' → m' "trail" = some (.ref x) → m' "clauses" = some (.ref a) →
          News g L s'.heap [(J, oJ), (I, oI), (aW, listOf vW.toArray qW), (aO, listOf vO.toArray qO)] → IntsAre vW W₃ → IntsAre vO O₃ → Tr n W₃ O₃ → m' "moved" = some (.bool mv) → roundF css W' O' false = roundF (css.drop (j + 1)) W₃ O₃ mv →
          Q₂ .next s' :=
        fun s' m' W₃ O₃ vW qW vO qO mv a1 a2 a3 a4 a5 a6 a7 a8 a9 a10 => hQ₂ .next _ ⟨m', a2, news_at a5 (List.mem_cons_self ..) hoJ, kept_g F a2 hca, a1, a3, a4, W₃, O₃, vW, qW, vO, qO, mv, news_sub a5 (fun p hp => List.mem_cons_of_mem _ hp), a6, a7, a8, a9, a10⟩
      (repeat (first | with_reducible refine wpAny_execs_cons ?_ | ((with_reducible show wpAny _ _ (eval (Expr.Name _ _) _) _ _ _); (first | (refine nameX_L (v := _) F (by (repeat (first | with_reducible assumption | with_reducible exact up_eq _ _ _ | refine (up_ne (by decide)).trans ?_ | exact rfl))) ?_ rfl rfl (by decide)) | (refine nameX_C (c := _) (o := _) (v := _) N rfl (by k_mem) (by assumption) ?_ rfl rfl (by decide)) | (refine r_glob G F (by k_is) ?_ rfl rfl (by decide)) | (refine r_boot G F (by boot_fast) (by k_is) (by decide) ?_ rfl rfl (by decide)))) | (with_reducible refine args_cons ?_ rfl) | (with_reducible refine args_nil ?_) | ((with_reducible show Keep _ _ ∧ _); refine And.intro F.keep ?_) | ((with_reducible show wpAny _ _ (callWith _ (Value.ref _) [] _ []) _ _ _); refine r_callf G (by k_is) ?_ rfl rfl) | (with_reducible refine Call_ ?_ rfl) | (with_reducible refine Assign_Tuple ?_ (by with_unfolding_all rfl) (by with_unfolding_all rfl)) | (with_reducible refine Attribute_any_ ?_ (by with_unfolding_all rfl)) | ((with_reducible show wpAny _ _ (getAttr (Value.ref _) _ _) _ _ _); refine z_attr (attr := _) (v := _) G F (F.keep _ _ (by with_reducible assumption)) (by first | exact F.keep _ _ (by with_reducible assumption) | exact N.get (by k_mem)) (by k_is) (by k_is) (by k_is) (by k_is) (by k_get) rfl (fun tk => ?_))))
      refine clause_state_ok (G.keeps F.keep) (R.deeper _) (stays_list F.keep hbl) hbi ⟨_, N.get (List.mem_cons_of_mem _ (List.mem_cons_of_mem _ (List.mem_cons_self ..))), rfl, _, rfl⟩ iW (S.val c hmem) tr₂.len hn3 (S.each c hmem) (fun T t₁ t₂ s' sm kp hT => ?_)
      replace F := F.keeps kp
      replace N := N.grown kp
      skip
      refine r_unpack2 (show A.handled = none from R.handled) F N hT (fun h tk F N hg => ?_) rfl rfl rfl
      (repeat (first | with_reducible refine wpAny_execs_cons ?_ | with_reducible refine wpAny_If ?_ | (with_reducible refine wpAny_isTrue_Compare1 ?_ (by with_unfolding_all rfl)) | with_reducible refine z_str ?_ | ((with_reducible show wpAny _ _ (eval (Expr.Name _ _) _) _ _ _); (first | (refine nameX_L (v := _) F (by (repeat (first | with_reducible assumption | with_reducible exact up_eq _ _ _ | refine (up_ne (by decide)).trans ?_ | exact rfl))) ?_ rfl rfl (by decide)) | (refine nameX_C (c := _) (o := _) (v := _) N rfl (by k_mem) (by assumption) ?_ rfl rfl (by decide)) | (refine r_glob G F (by k_is) ?_ rfl rfl (by decide)) | (refine r_boot G F (by boot_fast) (by k_is) (by decide) ?_ rfl rfl (by decide))))))
      refine eq_str ?_
      rw [tag_eq_false]
      (repeat (first | with_reducible refine wpAny_truthy_bool ?_))
      refine split_bool (fun hc' => ?_) (fun hc' => ?_)
      · have e := isFls_eq hc'
        (repeat (first | with_reducible refine wpAny_execs_cons ?_ | with_reducible refine wpAny_Return_some ?_ | with_reducible refine Constant_bool ?_))
        rw [roundF, e] at hrf
        rw [hpf, prop_fls hrf] at ret
        exact hQ₂ (.ret _) _ (hQ₁ (.ret _) _ (hQ₀ (.ret _) _ (ret _ (((hs₂.set _ _).trans sm).set _ _) F.keep ⟨_, _, N.get (List.mem_cons_of_mem _ (List.mem_cons_of_mem _ (List.mem_cons_self ..))), iW⟩ ⟨_, _, N.get (List.mem_cons_of_mem _ (List.mem_cons_of_mem _ (List.mem_cons_of_mem _ (List.mem_cons_self ..)))), iO⟩)))
      · (repeat (first | with_reducible refine wpAny_execs_cons ?_ | with_reducible refine wpAny_execs_nil ?_ | with_reducible refine wpAny_If ?_ | (with_reducible refine wpAny_isTrue_Compare1 ?_ (by with_unfolding_all rfl)) | with_reducible refine z_str ?_ | ((with_reducible show wpAny _ _ (eval (Expr.Name _ _) _) _ _ _); (first | (refine nameX_L (v := _) F (by (repeat (first | with_reducible assumption | with_reducible exact up_eq _ _ _ | refine (up_ne (by decide)).trans ?_ | exact rfl))) ?_ rfl rfl (by decide)) | (refine nameX_C (c := _) (o := _) (v := _) N rfl (by k_mem) (by assumption) ?_ rfl rfl (by decide)) | (refine r_glob G F (by k_is) ?_ rfl rfl (by decide)) | (refine r_boot G F (by boot_fast) (by k_is) (by decide) ?_ rfl rfl (by decide))))))
        refine eq_str ?_
        rw [tag_eq_unit]
        (repeat (first | with_reducible refine wpAny_truthy_bool ?_))
        refine split_bool (fun hc'' => ?_) (fun hc'' => ?_)
        · obtain ⟨l, e⟩ := isUnit_eq hc''
          rw [e] at F
          obtain ⟨hl, h0, _⟩ := clause_unit e
          have hvl := S.val c hmem l hl
          (repeat (first | with_reducible refine wpAny_execs_cons ?_ | ((with_reducible show wpAny _ _ (eval (Expr.Name _ _) _) _ _ _); (first | (refine nameX_L (v := _) F (by (repeat (first | with_reducible assumption | with_reducible exact up_eq _ _ _ | refine (up_ne (by decide)).trans ?_ | exact rfl))) ?_ rfl rfl (by decide)) | (refine nameX_C (c := _) (o := _) (v := _) N rfl (by k_mem) (by assumption) ?_ rfl rfl (by decide)) | (refine r_glob G F (by k_is) ?_ rfl rfl (by decide)) | (refine r_boot G F (by boot_fast) (by k_is) (by decide) ?_ rfl rfl (by decide)))) | (with_reducible refine args_cons ?_ rfl) | (with_reducible refine args_nil ?_) | ((with_reducible show Keep _ _ ∧ _); refine And.intro F.keep ?_) | (with_reducible refine wpAny_Expr ?_ (by with_unfolding_all rfl) (by with_unfolding_all rfl)) | (with_reducible refine MethodCall_ (pl := _) ?_ (by with_unfolding_all rfl)) | ((with_reducible show wpAny _ _ (getMethod (Value.ref _) _ _) _ _ _); refine r_meth (f := _) G F (F.keep _ _ (by with_reducible assumption)) (by first | exact F.keep _ _ (by with_reducible assumption) | exact N.get (by k_mem)) (by k_is) (by k_is) (by k_is) rfl ?_) | ((with_reducible show wpAny _ _ (callWith _ (Value.ref _) (_ :: _) (backTo _ (starEach (_ :: _) _)) []) _ _ _); refine r_callm G (by k_is) ?_ rfl rfl)))
          refine assign_ok (G.keeps (keep_hid F.keep gWO)) ((R.less (by decide)).deeper _) (TT.keep F.keep) hWO ⟨_, _, N.get (List.mem_cons_of_mem _ (List.mem_cons_of_mem _ (List.mem_cons_self ..))), iW⟩
            ⟨_, _, N.get (List.mem_cons_of_mem _ (List.mem_cons_of_mem _ (List.mem_cons_of_mem _ (List.mem_cons_self ..)))), iO⟩ hvl tr₂.len hn3 (by have := tr₂.length_le; (first | lia | omega)) (fun s₅ sm₅ kp₅ hW₅ hO₅ => ?_)
          obtain ⟨vW₅, qW₅, eW₅, iW₅⟩ := hW₅
          obtain ⟨vO₅, qO₅, eO₅, iO₅⟩ := hO₅
          replace F := fr_hid F kp₅ gWO LWO
          replace N := news_wo [(J, oJ), (I, oI)] N kp₅ (fun p hp => by
            rcases List.mem_cons.mp hp with q | q
            · rw [q]; exact ⟨Ne.symm nW', Ne.symm nO'⟩
            · rw [List.mem_singleton.mp q]; exact ⟨Ne.symm nW, Ne.symm nO⟩) eW₅ eO₅
          replace N : News g L s₅.heap [(J, oJ), (I, oI), (aW, listOf vW₅.toArray qW₅), (aO, listOf vO₅.toArray qO₅)] := N
          show wpAny _ _ _ _ _ _
          (repeat (first | with_reducible refine wpAny_execs_cons ?_ | with_reducible refine wpAny_execs_nil ?_ | with_reducible refine Constant_bool ?_ | (with_reducible refine wpAny_Assign_Name ?_ (by with_unfolding_all rfl)) | ((with_reducible show wpAny _ _ (storeName _ _ _) _ _ _); (refine z_store F N ?_ rfl rfl; clear F N; intro h tk F N hg))))
          exact fin _ _ _ _ _ _ _ _ true (((((hs₂.set _ _).trans sm).set _ _).trans sm₅).set _ _) F ((up_ne (by decide)).trans ((up_ne (by decide)).trans ((up_ne (by decide)).trans ((up_ne (by decide)).trans hm1)))) ((up_ne (by decide)).trans ((up_ne (by decide)).trans ((up_ne (by decide)).trans ((up_ne (by decide)).trans hm2)))) N iW₅ iO₅ (tr₂.snoc hvl h0)
            (up_eq _ _ _) (by rw [hrf, roundF, e]; rfl)
        · (repeat (first | with_reducible refine wpAny_execs_nil ?_))
          have hrf' : roundF css W' O' false = roundF (css.drop (j + 1)) W₂ O₂ mv := by
            rw [hrf, roundF]
            cases e : clauseState c W₂ with
            | tru => rfl
            | opn => rfl
            | fls => rw [e] at hc'; cases hc'
            | unit l => rw [e] at hc''; cases hc''
          exact fin _ _ W₂ O₂ _ _ _ _ mv (((hs₂.set _ _).trans sm).set _ _) F ((up_ne (by decide)).trans ((up_ne (by decide)).trans ((up_ne (by decide)).trans hm1))) ((up_ne (by decide)).trans ((up_ne (by decide)).trans ((up_ne (by decide)).trans hm2))) N iW iO tr₂
            ((up_ne (by decide)).trans ((up_ne (by decide)).trans ((up_ne (by decide)).trans hmv))) hrf'
    · rintro m s₂ ⟨hs₂, hm1, hm2, W₂, O₂, vW, qW, vO, qO, mv, N, iW, iO, tr₂, hmv, hrf⟩ F
      rw [hlen, List.drop_length] at hrf
      replace hrf : roundF css W' O' false = (W₂, O₂, some mv) := hrf
      show wpAny _ _ _ _ _ _
      (repeat (first | with_reducible refine wpAny_execs_cons ?_ | with_reducible refine wpAny_If ?_ | with_reducible refine isTrue_not ?_ | with_reducible refine wpAny_truthy_bool ?_ | ((with_reducible show wpAny _ _ (eval (Expr.Name _ _) _) _ _ _); (first | (refine nameX_L (v := _) F (by (repeat (first | with_reducible assumption | with_reducible exact up_eq _ _ _ | refine (up_ne (by decide)).trans ?_ | exact rfl))) ?_ rfl rfl (by decide)) | (refine nameX_C (c := _) (o := _) (v := _) N rfl (by k_mem) (by assumption) ?_ rfl rfl (by decide)) | (refine r_glob G F (by k_is) ?_ rfl rfl (by decide)) | (refine r_boot G F (by boot_fast) (by k_is) (by decide) ?_ rfl rfl (by decide)))) | (with_reducible refine isTrue_plain ?_ (by with_unfolding_all rfl))))
      cases mv with
      | false =>
        simp only [Bool.not_false, if_true]
        (repeat (first | with_reducible refine wpAny_execs_cons ?_ | with_reducible refine wpAny_Return_some ?_ | with_reducible refine Constant_bool ?_))
        rw [hpf, prop_stop hrf] at ret
        exact hQ₁ (.ret _) _ (hQ₀ (.ret _) _ (ret _ (hs₂.set _ _) F.keep ⟨_, _, N.get (List.mem_cons_of_mem _ (List.mem_cons_self ..)), iW⟩ ⟨_, _, N.get (List.mem_cons_of_mem _ (List.mem_cons_of_mem _ (List.mem_cons_self ..))), iO⟩))
      | true =>
        simp only [Bool.not_true, Bool.false_eq_true, if_false]
        (repeat (first | with_reducible refine wpAny_execs_nil ?_))
        refine hQ₁ .next _ ⟨_, F, news_at N (List.mem_cons_self ..) hoI, hs₂.set _ _, hm1, hm2, W₂, O₂, vW, qW, vO, qO, news_sub N (fun p hp => List.mem_cons_of_mem _ hp), iW, iO, tr₂, ?_⟩
        rw [hpf, prop_go hrf, show n + 1 - (i + 1) = k by (first | lia | omega)]
  · rintro m s₁ ⟨hs₁, hm1, hm2, W', O', vW, qW, vO, qO, N, iW, iO, tr', hpf⟩ F
    rw [Nat.sub_self] at hpf
    replace hpf : propF (n + 1) css W O = (W', O', true) := hpf
    show wpAny _ _ _ _ _ _
    (repeat (first | with_reducible refine wpAny_execs_cons ?_ | with_reducible refine wpAny_Return_some ?_ | with_reducible refine Constant_bool ?_))
    rw [hpf] at ret
    exact hQ₀ (.ret _) _ (ret _ (hs₁.set _ _) F.keep ⟨_, _, N.get (List.mem_cons_self ..), iW⟩ ⟨_, _, N.get (List.mem_cons_of_mem _ (List.mem_cons_self ..)), iO⟩)
end
end Mine
namespace Mine
section
variable {prog : Program} {w : World} {A : Around} {E : Value → Shared → Prop} {s : Shared} {p : Program} {loose : List Str} {mg mb : Str → Option Value}

theorem trail_make' {Q : Value → Shared → Prop} {n : Nat} {t : Tok}
    (G : Gd (hd.heap_39 w.params) p loose mg mb s.heap) (R : Room A 2) (hn : n ≤ 3)
    (ret : ∀ x dx t₁ t₂ t₃ t₄ t₅ aW aO aM s', Same s s' → Keep s.heap s'.heap → s'.heap.get? x = some (instObj 111 dx) → s'.heap.get? dx = some (dictOf (tEs w.params t₁ t₂ t₃ t₄ t₅ (n : Nat) aW aO aM) 4) →
      @LE.le Nat _ s.heap.objs.size x → @LE.le Nat _ s.heap.objs.size dx → LsAt s'.heap aW (List.replicate (n + 1) 0) → LsAt s'.heap aO [] → LsAt s'.heap aM [] →
      @LE.le Nat _ s.heap.objs.size aW → @LT.lt Nat _ aW aO → @LT.lt Nat _ aO aM → Q (.ref x) s') :
    wpAny (model prog w) A (call (.ref 111) [.int (n : Nat) t]) Q E s := by
  refine r_make (fI := 61) G (by k_is) (by k_is) (by k_is) (fun x dx h' ex edx kp hx hdx hsz => ?_)
  have hxd : x ≠ dx := by rw [ex, edx]; exact Nat.succ_ne_self _
  have gdx : (hideAll h' [dx]).get? dx = none := hideAll_none _ (by simp)
  have hxg : (hideAll h' [dx]).get? x = some (instObj 111 dx) := hideAll_get _ hx (by simpa using hxd)
  have kpg : Keep s.heap (hideAll h' [dx]) := keep_hid kp (fun b hb => by rw [List.mem_singleton.mp hb, edx]; exact fresh_of (Keep.refl _))
  refine enterCode (g := hideAll h' [dx]) (binds := [("self", .ref x), ("n", .int (n : Nat) t)]) (G.keeps kpg) (keep_hide _) (Nat.le_of_eq (hideAll_size _ _)) (by k_is) (by k_is) (R.make _ _).room (BindsTo.of_eq rfl) (locs rfl) ?_ rfl rfl rfl (by decide)
  intro L h tk F hk hL
  have hdL : dx ≠ L := Nat.ne_of_lt (Nat.lt_of_lt_of_le (Heap.lt_size hdx) hL)
  have N : News (hideAll h' [dx]) L h [(dx, dictOf [] 0)] := news_cons News.nil (hk _ _ hdx) hdL gdx
  replace G := G.keeps kpg
  have hgs : (hideAll h' [dx]).objs.size = s.heap.objs.size + 2 := by rw [hideAll_size]; exact hsz
  have kpg' := kpg
  clear hk kp hx hdx
  generalize hideAll h' [dx] = g at *
  (repeat (first | with_reducible refine wpAny_execs_cons ?_ | ((with_reducible show wpAny _ _ (eval (Expr.Name _ _) _) _ _ _); (first | (refine nameX_L (v := _) F (by (repeat (first | with_reducible assumption | with_reducible exact up_eq _ _ _ | refine (up_ne (by decide)).trans ?_ | exact rfl))) ?_ rfl rfl (by decide)) | (refine nameX_C (c := _) (o := _) (v := _) N rfl (by k_mem) (by assumption) ?_ rfl rfl (by decide)) | (refine r_glob G F (by k_is) ?_ rfl rfl (by decide)) | (refine r_boot G F (by boot_fast) (by k_is) (by decide) ?_ rfl rfl (by decide)))) | (with_reducible refine plainObj_wpAny_Assign_Attribute ?_ (by with_unfolding_all rfl))))
  refine r_setattr (fun t₁ => [⟨PyData.keyHash w.params "n", .str "n" t₁, .int (n : Nat) t⟩]) 1 G F N (F.keep _ _ hxg) (by k_is) (by k_is) (by k_is) (by k_is) rfl (fun _ => rfl) (fun _ => Upd.head (by simp)) (fun _ => by simp) (fun h tk t₁ F N => ?_)
  (repeat (first | with_reducible refine wpAny_execs_cons ?_ | with_reducible refine wpAny_BinOp ?_ | with_reducible refine z_int ?_ | with_reducible refine List_ ?_ | with_reducible refine z_add ?_ | ((with_reducible show wpAny _ _ (eval (Expr.Name _ _) _) _ _ _); (first | (refine nameX_L (v := _) F (by (repeat (first | with_reducible assumption | with_reducible exact up_eq _ _ _ | refine (up_ne (by decide)).trans ?_ | exact rfl))) ?_ rfl rfl (by decide)) | (refine nameX_C (c := _) (o := _) (v := _) N rfl (by k_mem) (by assumption) ?_ rfl rfl (by decide)) | (refine r_glob G F (by k_is) ?_ rfl rfl (by decide)) | (refine r_boot G F (by boot_fast) (by k_is) (by decide) ?_ rfl rfl (by decide)))) | (with_reducible refine args_cons ?_ rfl) | (with_reducible refine args_nil ?_) | ((with_reducible show wpAny _ _ (newList _) _ _ _); (refine z_newList F N ?_ (by size_fits)); clear F N; intro D h F N hDlt) | (with_reducible refine plainObj_wpAny_Assign_Attribute ?_ (by with_unfolding_all rfl))))
  have hD0 := hDlt _ (List.mem_cons_self ..)
  rw [show ((n : Nat) : Int) + 1 = ((n + 1 : Nat) : Int) from rfl]
  refine r_rep (k := n + 1) F N (N.get (List.mem_cons_self ..)) (by (first | lia | omega)) (fun aW h F N hlt => ?_)
  have hD1 := hlt _ (List.mem_cons_self ..)
  clear hlt hDlt
  (repeat (first | ((with_reducible show wpAny _ _ (eval (Expr.Name _ _) _) _ _ _); (first | (refine nameX_L (v := _) F (by (repeat (first | with_reducible assumption | with_reducible exact up_eq _ _ _ | refine (up_ne (by decide)).trans ?_ | exact rfl))) ?_ rfl rfl (by decide)) | (refine nameX_C (c := _) (o := _) (v := _) N rfl (by k_mem) (by assumption) ?_ rfl rfl (by decide)) | (refine r_glob G F (by k_is) ?_ rfl rfl (by decide)) | (refine r_boot G F (by boot_fast) (by k_is) (by decide) ?_ rfl rfl (by decide))))))
  refine r_setattr (fun t₂ => [⟨PyData.keyHash w.params "n", .str "n" t₁, .int (n : Nat) t⟩, ⟨PyData.keyHash w.params "worths", .str "worths" t₂, .ref aW⟩]) 2 G F N (F.keep _ _ hxg) (by k_is) (by k_is) (by k_is) (by k_is) rfl (fun _ => rfl) (fun _ => Upd.tail (Nat.ne_of_gt (Nat.lt_trans hD0 hD1)) (Upd.tail (Nat.ne_of_gt hD0) (Upd.head (by simp)))) (fun _ => by simp) (fun h tk t₂ F N => ?_)
  (repeat (first | with_reducible refine wpAny_execs_cons ?_ | with_reducible refine List_ ?_ | ((with_reducible show wpAny _ _ (eval (Expr.Name _ _) _) _ _ _); (first | (refine nameX_L (v := _) F (by (repeat (first | with_reducible assumption | with_reducible exact up_eq _ _ _ | refine (up_ne (by decide)).trans ?_ | exact rfl))) ?_ rfl rfl (by decide)) | (refine nameX_C (c := _) (o := _) (v := _) N rfl (by k_mem) (by assumption) ?_ rfl rfl (by decide)) | (refine r_glob G F (by k_is) ?_ rfl rfl (by decide)) | (refine r_boot G F (by boot_fast) (by k_is) (by decide) ?_ rfl rfl (by decide)))) | (with_reducible refine args_nil ?_) | ((with_reducible show wpAny _ _ (newList _) _ _ _); (refine z_newList F N ?_ (by size_fits)); clear F N; intro D h F N hDlt) | (with_reducible refine plainObj_wpAny_Assign_Attribute ?_ (by with_unfolding_all rfl))))
  have hO0 := hDlt _ (List.mem_cons_self ..)
  clear hDlt
  rename Addr => aO
  refine r_setattr (fun t₃ => [⟨PyData.keyHash w.params "n", .str "n" t₁, .int (n : Nat) t⟩, ⟨PyData.keyHash w.params "worths", .str "worths" t₂, .ref aW⟩, ⟨PyData.keyHash w.params "order", .str "order" t₃, .ref aO⟩]) 3 G F N (F.keep _ _ hxg) (by k_is) (by k_is) (by k_is) (by k_is) rfl (fun _ => rfl) (fun _ => Upd.tail (Nat.ne_of_gt (Nat.lt_trans hD0 (Nat.lt_trans hD1 hO0))) (Upd.tail (Nat.ne_of_gt (Nat.lt_trans hD0 hD1)) (Upd.tail (Nat.ne_of_gt hD0) (Upd.head (by simp))))) (fun _ => by simp) (fun h tk t₃ F N => ?_)
  (repeat (first | with_reducible refine wpAny_execs_cons ?_ | with_reducible refine List_ ?_ | ((with_reducible show wpAny _ _ (eval (Expr.Name _ _) _) _ _ _); (first | (refine nameX_L (v := _) F (by (repeat (first | with_reducible assumption | with_reducible exact up_eq _ _ _ | refine (up_ne (by decide)).trans ?_ | exact rfl))) ?_ rfl rfl (by decide)) | (refine nameX_C (c := _) (o := _) (v := _) N rfl (by k_mem) (by assumption) ?_ rfl rfl (by decide)) | (refine r_glob G F (by k_is) ?_ rfl rfl (by decide)) | (refine r_boot G F (by boot_fast) (by k_is) (by decide) ?_ rfl rfl (by decide)))) | (with_reducible refine args_nil ?_) | ((with_reducible show wpAny _ _ (newList _) _ _ _); (refine z_newList F N ?_ (by size_fits)); clear F N; intro D h F N hDlt) | (with_reducible refine plainObj_wpAny_Assign_Attribute ?_ (by with_unfolding_all rfl))))
  have hM0 := hDlt _ (List.mem_cons_self ..)
  clear hDlt
  rename Addr => aM
  refine r_setattr (fun t₄ => tEs w.params t₁ t₂ t₃ t₄ t n aW aO aM) 4 G F N (F.keep _ _ hxg) (by k_is) (by k_is) (by k_is) (by k_is) rfl (fun _ => rfl) (fun _ => Upd.tail (Nat.ne_of_gt (Nat.lt_trans hD0 (Nat.lt_trans hD1 (Nat.lt_trans hO0 hM0)))) (Upd.tail (Nat.ne_of_gt (Nat.lt_trans hD0 (Nat.lt_trans hD1 hO0))) (Upd.tail (Nat.ne_of_gt (Nat.lt_trans hD0 hD1)) (Upd.tail (Nat.ne_of_gt hD0) (Upd.head (by simp)))))) (fun _ => by simp) (fun h tk t₄ F N => ?_)
  (repeat (first | with_reducible refine wpAny_execs_nil ?_))
  refine ⟨rfl, ret x dx t₁ t₂ t₃ t₄ t aW aO aM _ (Same.of _ _ _) (kpg'.trans F.keep) (F.keep _ _ hxg) (N.get (by k_mem)) (by rw [ex]; exact Nat.le_succ _) (by rw [edx]; exact Nat.le_refl _) ⟨_, _, N.get (by k_mem), ints_rep _ _⟩ ⟨_, _, N.get (by k_mem), IntsAre.nil⟩ ⟨_, _, N.get (by k_mem), IntsAre.nil⟩ ?_ hO0 hM0⟩
  have hD1' : @LT.lt Nat _ dx aW := Nat.lt_trans hD0 hD1
  rw [edx] at hD1'; exact Nat.le_of_lt hD1'
end
end Mine
namespace Mine
/-- a Trail's three lists -/
structure TrSt (h : Heap) (aW aO aM : Addr) (W O : List Int) (M : List Nat) : Prop where
  wo : aW ≠ aO
  wm : aW ≠ aM
  om : aO ≠ aM
  w : LsAt h aW W
  o : LsAt h aO O
  m : LsAt h aM (M.map fun j => ((j : Nat) : Int))
theorem TrSt.keep {h h' : Heap} {aW aO aM : Addr} {W O : List Int} {M : List Nat} (x : TrSt h aW aO aM W O M) (k : Keep h h') : TrSt h' aW aO aM W O M := ⟨x.wo, x.wm, x.om, x.w.keep k, x.o.keep k, x.m.keep k⟩
theorem TrSt.each {h : Heap} {aW aO aM : Addr} {W O : List Int} {M : List Nat} (x : TrSt h aW aO aM W O M) : ∀ a ∈ [aW, aO, aM], ∃ ns, LsAt h a ns := fun a ha => by
  rcases List.mem_cons.mp ha with q | ha
  · exact ⟨_, q ▸ x.w⟩
  · rcases List.mem_cons.mp ha with q | q
    · exact ⟨_, q ▸ x.o⟩
    · exact ⟨_, List.mem_singleton.mp q ▸ x.m⟩

section
variable {prog : Program} {w : World} {A : Around} {E : Value → Shared → Prop} {s : Shared} {p : Program} {loose : List Str} {mg mb : Str → Option Value}

theorem decide_ok {Q : Value → Shared → Prop} {x aW aO aM : Addr} {W O : List Int} {M : List Nat} {n : Nat} {lit : Int} {t : Tok}
    (G : Gd (hd.heap_39 w.params) p loose mg mb (hideAll s.heap [aW, aO, aM])) (R : Room A 2) (T : TrailAt w.params s.heap x n aW aO aM) (S : TrSt s.heap aW aO aM W O M)
    (hv : Valid n lit) (hlen : W.length = n + 1) (hn : n ≤ 3) (hol : O.length ≤ 1000) (hml : M.length ≤ 1000)
    (ret : ∀ s', Same s s' → Keep (hideAll s.heap [aW, aO, aM]) s'.heap → TrSt s'.heap aW aO aM (setW W lit) (O ++ [lit]) (M ++ [O.length]) → Q .none s') :
    wpAny (model prog w) A (call (.ref 82) [.ref x, .int lit t]) Q E s := by
  have T' := T.hid S.each
  have TT := T'
  obtain ⟨dx, t₁, t₂, t₃, t₄, t₅, hx, hdx⟩ := T'
  obtain ⟨hwo, hwm, hom, ⟨vW, qW, eW, iW⟩, ⟨vO, qO, eO, iO⟩, ⟨vM, qM, eM, iM⟩⟩ := S
  have gA : ∀ b ∈ [aW, aO, aM], (hideAll s.heap [aW, aO, aM]).get? b = none := fun b hb => hideAll_none _ hb
  refine enter (g := hideAll s.heap [aW, aO, aM]) (binds := [("self", .ref x), ("lit", .int lit t)]) G (keep_hide _) (Nat.le_of_eq (hideAll_size _ _)) (by k_is) (by k_is) R.room (BindsTo.of_eq rfl) (locs rfl) ?_ rfl rfl rfl (by decide)
  intro L h tk F hk hL
  have LW : aW ≠ L := Nat.ne_of_lt (Nat.lt_of_lt_of_le (Heap.lt_size eW) hL)
  have LO : aO ≠ L := Nat.ne_of_lt (Nat.lt_of_lt_of_le (Heap.lt_size eO) hL)
  have LM : aM ≠ L := Nat.ne_of_lt (Nat.lt_of_lt_of_le (Heap.lt_size eM) hL)
  have gW := gA aW (by simp)
  have gO := gA aO (by simp)
  have gM := gA aM (by simp)
  have N : News (hideAll s.heap [aW, aO, aM]) L h [(aM, listOf vM.toArray qM), (aW, listOf vW.toArray qW), (aO, listOf vO.toArray qO)] :=
    news_cons (news_cons (news_cons News.nil (hk _ _ eO) LO gO) (hk _ _ eW) LW gW) (hk _ _ eM) LM gM
  clear eW eO eM hk T
  generalize hideAll s.heap [aW, aO, aM] = g at *
  (repeat (first | with_reducible refine wpAny_execs_cons ?_ | ((with_reducible show wpAny _ _ (eval (Expr.Name _ _) _) _ _ _); (first | (refine nameX_L (v := _) F (by (repeat (first | with_reducible assumption | with_reducible exact up_eq _ _ _ | refine (up_ne (by decide)).trans ?_ | exact rfl))) ?_ rfl rfl (by decide)) | (refine nameX_C (c := _) (o := _) (v := _) N rfl (by k_mem) (by assumption) ?_ rfl rfl (by decide)) | (refine r_glob G F (by k_is) ?_ rfl rfl (by decide)) | (refine r_boot G F (by boot_fast) (by k_is) (by decide) ?_ rfl rfl (by decide)))) | (with_reducible refine args_cons ?_ rfl) | (with_reducible refine args_nil ?_) | ((with_reducible show wpAny _ _ (callWith _ (Value.builtin _) [] _ []) _ _ _); refine callWith_builtin1 ?_ rfl rfl) | ((with_reducible show wpAny _ _ (callWith _ (Value.builtin _) (_ :: _) _ []) _ _ _); refine callWith_method1 ?_ rfl rfl) | (with_reducible refine wpAny_Expr ?_ (by with_unfolding_all rfl) (by with_unfolding_all rfl)) | (with_reducible refine MethodCall_ (pl := _) ?_ (by with_unfolding_all rfl)) | ((with_reducible show wpAny _ _ (getMethod (Value.ref _) (Str.ofString "append") _) _ _ _); refine Calls.getMethod_list_append (o := _) (N.get (by k_mem)) rfl rfl ?_) | (with_reducible refine Call_ ?_ rfl) | (with_reducible refine Attribute_any_ ?_ (by with_unfolding_all rfl)) | ((with_reducible show wpAny _ _ (getAttr (Value.ref _) _ _) _ _ _); refine z_attr (attr := _) (v := _) G F (F.keep _ _ (by with_reducible assumption)) (by first | exact F.keep _ _ (by with_reducible assumption) | exact N.get (by k_mem)) (by k_is) (by k_is) (by k_is) (by k_is) (by k_get) rfl (fun tk => ?_))))
  refine z_len (n := O.length) ⟨_, N.get (by k_mem), rfl, _, rfl⟩ iO.length (by (first | lia | omega)) (fun tl tk => ?_)
  (repeat (first | (with_reducible refine args_nil ?_)))
  refine z_append F N (Upd.head (by simp [hwm, hom])) (by rw [iM.length, List.length_map]; (first | lia | omega)) (fun h F N _ => ?_)
  (repeat (first | with_reducible refine wpAny_execs_cons ?_ | ((with_reducible show wpAny _ _ (eval (Expr.Name _ _) _) _ _ _); (first | (refine nameX_L (v := _) F (by (repeat (first | with_reducible assumption | with_reducible exact up_eq _ _ _ | refine (up_ne (by decide)).trans ?_ | exact rfl))) ?_ rfl rfl (by decide)) | (refine nameX_C (c := _) (o := _) (v := _) N rfl (by k_mem) (by assumption) ?_ rfl rfl (by decide)) | (refine r_glob G F (by k_is) ?_ rfl rfl (by decide)) | (refine r_boot G F (by boot_fast) (by k_is) (by decide) ?_ rfl rfl (by decide)))) | (with_reducible refine args_cons ?_ rfl) | (with_reducible refine args_nil ?_) | ((with_reducible show Keep _ _ ∧ _); refine And.intro F.keep ?_) | (with_reducible refine wpAny_Expr ?_ (by with_unfolding_all rfl) (by with_unfolding_all rfl)) | (with_reducible refine MethodCall_ (pl := _) ?_ (by with_unfolding_all rfl)) | ((with_reducible show wpAny _ _ (getMethod (Value.ref _) _ _) _ _ _); refine r_meth (f := _) G F (F.keep _ _ (by with_reducible assumption)) (by first | exact F.keep _ _ (by with_reducible assumption) | exact N.get (by k_mem)) (by k_is) (by k_is) (by k_is) rfl ?_) | ((with_reducible show wpAny _ _ (callWith _ (Value.ref _) (_ :: _) (backTo _ (starEach (_ :: _) _)) []) _ _ _); refine r_callm G (by k_is) ?_ rfl rfl)))
  refine assign_ok (G.keeps (keep_hid F.keep (fun b hb => gA b (List.mem_append_left [aM] hb))))
    (R.deeper _) (TT.keep F.keep) hwo ⟨_, _, N.get (by k_mem), iW⟩ ⟨_, _, N.get (by k_mem), iO⟩ hv hlen hn hol (fun s₅ sm₅ kp₅ hW₅ hO₅ => ?_)
  obtain ⟨vW₅, qW₅, eW₅, iW₅⟩ := hW₅
  obtain ⟨vO₅, qO₅, eO₅, iO₅⟩ := hO₅
  have aM₅ := hid_keep kp₅ (N.get (List.mem_cons_self ..)) (by simp; exact ⟨Ne.symm hwm, Ne.symm hom⟩)
  replace F := fr_hid F kp₅ (fun b hb => gA b (List.mem_append_left [aM] hb)) (by simp; exact ⟨Ne.symm LW, Ne.symm LO⟩)
  show wpAny _ _ _ _ _ _
  (repeat (first | with_reducible refine wpAny_execs_nil ?_))
  refine ret _ ((Same.of _ _ _).trans sm₅) F.keep ⟨hwo, hwm, hom, ⟨_, _, eW₅, iW₅⟩, ⟨_, _, eO₅, iO₅⟩, ⟨_, _, aM₅, ?_⟩⟩
  rw [List.map_append]
  exact IntsAre.append iM (IntsAre.cons _ _ IntsAre.nil)

theorem firstFree_at {W : List Int} {n i : Nat} (hi : i < n) (h : (List.range i).all (fun k => !(W.getD (k + 1) 0 == 0)) = true) (h0 : W.getD (i + 1) 0 = 0) : firstFree W n = i + 1 := by
  unfold firstFree
  have : (List.range n).find? (fun i => W.getD (i + 1) 0 == 0) = some i := by
    rw [List.find?_range_eq_some]
    refine ⟨by simpa using h0, List.mem_range.mpr hi, fun j hj => ?_⟩
    simpa using List.all_eq_true.mp h j (List.mem_range.mpr hj)
  rw [this]
theorem firstFree_no {W : List Int} {n : Nat} (h : (List.range n).all (fun k => !(W.getD (k + 1) 0 == 0)) = true) : firstFree W n = 0 := by
  unfold firstFree
  have : (List.range n).find? (fun i => W.getD (i + 1) 0 == 0) = none := by
    rw [List.find?_eq_none]
    intro k hk
    simpa using List.all_eq_true.mp h k hk
  rw [this]

theorem first_free_ok {Q : Value → Shared → Prop} {x aW aO aM : Addr} {W : List Int} {n : Nat}
    (G : Gd (hd.heap_39 w.params) p loose mg mb s.heap) (R : Room A 1) (T : TrailAt w.params s.heap x n aW aO aM) (hW : LsAt s.heap aW W) (hlen : W.length = n + 1) (hn : n ≤ 3)
    (ret : ∀ t s', Same s s' → Keep s.heap s'.heap → Q (.int (firstFree W n : Nat) t) s') :
    wpAny (model prog w) A (call (.ref 101) [.ref x]) Q E s := by
  obtain ⟨dx, t₁, t₂, t₃, t₄, t₅, hx, hdx⟩ := T
  obtain ⟨vW, qW, eW, iW⟩ := hW
  refine enter (g := s.heap) (binds := [("self", .ref x)]) G (Keep.refl _) (Nat.le_refl _) (by k_is) (by k_is) R.room (BindsTo.of_eq rfl) (locs rfl) ?_ rfl rfl rfl (by decide)
  intro L h tk F hk hL
  have N : News s.heap L h [] := News.nil
  (repeat (first | with_reducible refine wpAny_execs_cons ?_))
  refine wpAny_For ?_ (fun _ => rfl)
  (repeat (first | with_reducible refine wpAny_BinOp ?_ | with_reducible refine z_int ?_ | with_reducible refine z_add ?_ | ((with_reducible show wpAny _ _ (eval (Expr.Name _ _) _) _ _ _); (first | (refine nameX_L (v := _) F (by (repeat (first | with_reducible assumption | with_reducible exact up_eq _ _ _ | refine (up_ne (by decide)).trans ?_ | exact rfl))) ?_ rfl rfl (by decide)) | (refine nameX_C (c := _) (o := _) (v := _) N rfl (by k_mem) (by assumption) ?_ rfl rfl (by decide)) | (refine r_glob G F (by k_is) ?_ rfl rfl (by decide)) | (refine r_boot G F (by boot_fast) (by k_is) (by decide) ?_ rfl rfl (by decide)))) | (with_reducible refine args_cons ?_ rfl) | (with_reducible refine args_nil ?_) | ((with_reducible show wpAny _ _ (callWith _ (Value.type _) [] _ []) _ _ _); refine Pv.callWith_type1 ?_ rfl rfl) | (with_reducible refine Call_ ?_ rfl) | (with_reducible refine Attribute_any_ ?_ (by with_unfolding_all rfl)) | ((with_reducible show wpAny _ _ (getAttr (Value.ref _) _ _) _ _ _); refine z_attr (attr := _) (v := _) G F (F.keep _ _ (by with_reducible assumption)) (by first | exact F.keep _ _ (by with_reducible assumption) | exact N.get (by k_mem)) (by k_is) (by k_is) (by k_is) (by k_is) (by k_get) rfl (fun tk => ?_))))
  (refine z_range2 F N ?_; clear F N; intro r h tk t0 u0 v0 F N hr hkr)
  refine for_range (n := n) (fun i m s' => Same s s' ∧ m "self" = some (.ref x) ∧ (List.range i).all (fun k => !(W.getD (k + 1) 0 == 0)) = true)
    R.handled hr (sm1 (Nat.le_trans hn (by decide))) (sz1 n) rfl rfl F ?_ ?_ ?_ ?_
  · intro h' tk' kp
    exact ⟨Same.of _ _ _, rfl, by simp⟩
  · rintro i m s₁ h' tk' ⟨a, b, c⟩ kp
    exact ⟨a.set _ _, b, c⟩
  · rintro i t' m s₁ E' hi ⟨hs₁, hm, hall⟩ F -
    replace F : Fr s.heap L s₁.heap (up m "v" (.int (1 + (i : Nat)) t')) := F
    have N : News s.heap L s₁.heap [] := News.nil
    have e0 : (1 : Int) + (i : Nat) = ((i + 1 : Nat) : Int) := by (first | lia | omega)
    rw [e0] at F
    (repeat (first | with_reducible refine wpAny_execs_cons ?_ | with_reducible refine wpAny_If ?_ | (with_reducible refine wpAny_isTrue_Compare1 ?_ (by with_unfolding_all rfl)) | with_reducible refine Subscript_ ?_ | ((with_reducible show wpAny _ _ (eval (Expr.Name _ _) _) _ _ _); (first | (refine nameX_L (v := _) F (by (repeat (first | with_reducible assumption | with_reducible exact up_eq _ _ _ | refine (up_ne (by decide)).trans ?_ | exact rfl))) ?_ rfl rfl (by decide)) | (refine nameX_C (c := _) (o := _) (v := _) N rfl (by k_mem) (by assumption) ?_ rfl rfl (by decide)) | (refine r_glob G F (by k_is) ?_ rfl rfl (by decide)) | (refine r_boot G F (by boot_fast) (by k_is) (by decide) ?_ rfl rfl (by decide)))) | (with_reducible refine Attribute_any_ ?_ (by with_unfolding_all rfl)) | ((with_reducible show wpAny _ _ (getAttr (Value.ref _) _ _) _ _ _); refine z_attr (attr := _) (v := _) G F (F.keep _ _ (by with_reducible assumption)) (by first | exact F.keep _ _ (by with_reducible assumption) | exact N.get (by k_mem)) (by k_is) (by k_is) (by k_is) (by k_is) (by k_get) rfl (fun tk => ?_))))
    refine r_item ⟨_, F.keep _ _ eW, rfl, _, rfl⟩ iW (by (first | lia | omega)) (by (first | lia | omega)) (by (first | lia | omega)) (fun t => ?_) rfl
    rw [Int.toNat_natCast]
    (repeat (first | with_reducible refine z_int ?_ | with_reducible refine eq_int ?_ | with_reducible refine wpAny_truthy_bool ?_))
    refine split_bool (fun hc => ?_) (fun hc => ?_)
    · (repeat (first | with_reducible refine wpAny_execs_cons ?_ | with_reducible refine wpAny_Return_some ?_ | ((with_reducible show wpAny _ _ (eval (Expr.Name _ _) _) _ _ _); (first | (refine nameX_L (v := _) F (by (repeat (first | with_reducible assumption | with_reducible exact up_eq _ _ _ | refine (up_ne (by decide)).trans ?_ | exact rfl))) ?_ rfl rfl (by decide)) | (refine nameX_C (c := _) (o := _) (v := _) N rfl (by k_mem) (by assumption) ?_ rfl rfl (by decide)) | (refine r_glob G F (by k_is) ?_ rfl rfl (by decide)) | (refine r_boot G F (by boot_fast) (by k_is) (by decide) ?_ rfl rfl (by decide))))))
      have e := firstFree_at hi hall (by simpa using hc)
      rw [e] at ret
      exact ret _ _ (hs₁.set _ _) F.keep
    · (repeat (first | with_reducible refine wpAny_execs_nil ?_))
      refine ⟨_, F, fun o e => e, hs₁.set _ _, (up_ne (by decide)).trans hm, ?_⟩
      rw [List.range_succ, List.all_append, hall]
      simpa using hc
  · rintro m s₁ ⟨hs₁, hm, hall⟩ F
    have N : News s.heap L s₁.heap [] := News.nil
    show wpAny _ _ _ _ _ _
    (repeat (first | with_reducible refine wpAny_execs_cons ?_ | with_reducible refine wpAny_Return_some ?_ | with_reducible refine z_int ?_))
    rw [firstFree_no hall] at ret
    exact ret _ _ (hs₁.set _ _) F.keep
end
end Mine
namespace Mine
section
variable {prog : Program} {w : World} {A : Around} {E : Value → Shared → Prop} {s : Shared} {p : Program} {loose : List Str} {mg mb : Str → Option Value}

theorem undo_ok {Q : Value → Shared → Prop} {x aW aO aM : Addr} {W O : List Int} {M : List Nat} {n j : Nat}
    (G : Gd (hd.heap_39 w.params) p loose mg mb (hideAll s.heap [aW, aO, aM])) (R : Room A 2) (T : TrailAt w.params s.heap x n aW aO aM) (S : TrSt s.heap aW aO aM W O M)
    (tr : Tr n W O) (hn : n ≤ 3) (hj : M.getLast? = some j) (hjO : j < O.length) (hml : M.length ≤ 1000)
    (ret : ∀ t s', Same s s' → Keep (hideAll s.heap [aW, aO, aM]) s'.heap → TrSt s'.heap aW aO aM (clearW W (O.drop j)) (O.take j) M.dropLast → Q (.int (O.getD j 0) t) s') :
    wpAny (model prog w) A (call (.ref 89) [.ref x]) Q E s := by
  have hol := tr.length_le
  have T' := T.hid S.each
  obtain ⟨dx, t₁, t₂, t₃, t₄, t₅, hx, hdx⟩ := T'
  obtain ⟨hwo, hwm, hom, ⟨vW, qW, eW, iW⟩, ⟨vO, qO, eO, iO⟩, ⟨vM, qM, eM, iM⟩⟩ := S
  have gA : ∀ b ∈ [aW, aO, aM], (hideAll s.heap [aW, aO, aM]).get? b = none := fun b hb => hideAll_none _ hb
  refine enter (g := hideAll s.heap [aW, aO, aM]) (binds := [("self", .ref x)]) G (keep_hide _) (Nat.le_of_eq (hideAll_size _ _)) (by k_is) (by k_is) R.room (BindsTo.of_eq rfl) (locs rfl) ?_ rfl rfl rfl (by decide)
  intro L h tk F hk hL
  refine hideQ (fun Q₀ hQ₀ => ?_)
  have LW : aW ≠ L := Nat.ne_of_lt (Nat.lt_of_lt_of_le (Heap.lt_size eW) hL)
  have LO : aO ≠ L := Nat.ne_of_lt (Nat.lt_of_lt_of_le (Heap.lt_size eO) hL)
  have LM : aM ≠ L := Nat.ne_of_lt (Nat.lt_of_lt_of_le (Heap.lt_size eM) hL)
  have gW := gA aW (by simp)
  have gO := gA aO (by simp)
  have gM := gA aM (by simp)
  have N : News (hideAll s.heap [aW, aO, aM]) L h [(aM, listOf vM.toArray qM), (aW, listOf vW.toArray qW), (aO, listOf vO.toArray qO)] :=
    news_cons (news_cons (news_cons News.nil (hk _ _ eO) LO gO) (hk _ _ eW) LW gW) (hk _ _ eM) LM gM
  clear eW eO eM hk T
  generalize hideAll s.heap [aW, aO, aM] = g at *
  have hM1 : 1 ≤ M.length := by
    cases M with
    | nil => cases hj
    | cons a b => simp
  have hlast : (M.map fun j => ((j : Nat) : Int)).getD ((M.map fun j => ((j : Nat) : Int)).length - 1) 0 = (j : Nat) := by
    rw [List.getLast?_eq_getElem?] at hj
    rw [List.getD_eq_getElem?_getD, List.length_map, List.getElem?_map, hj]; rfl
  (repeat (first | with_reducible refine wpAny_execs_cons ?_ | with_reducible refine UnaryOp_ ?_ | with_reducible refine z_int ?_ | with_reducible refine Subscript_ ?_ | with_reducible refine z_neg ?_ | ((with_reducible show wpAny _ _ (eval (Expr.Name _ _) _) _ _ _); (first | (refine nameX_L (v := _) F (by (repeat (first | with_reducible assumption | with_reducible exact up_eq _ _ _ | refine (up_ne (by decide)).trans ?_ | exact rfl))) ?_ rfl rfl (by decide)) | (refine nameX_C (c := _) (o := _) (v := _) N rfl (by k_mem) (by assumption) ?_ rfl rfl (by decide)) | (refine r_glob G F (by k_is) ?_ rfl rfl (by decide)) | (refine r_boot G F (by boot_fast) (by k_is) (by decide) ?_ rfl rfl (by decide)))) | (with_reducible refine Attribute_any_ ?_ (by with_unfolding_all rfl)) | ((with_reducible show wpAny _ _ (getAttr (Value.ref _) _ _) _ _ _); refine z_attr (attr := _) (v := _) G F (F.keep _ _ (by with_reducible assumption)) (by first | exact F.keep _ _ (by with_reducible assumption) | exact N.get (by k_mem)) (by k_is) (by k_is) (by k_is) (by k_is) (by k_get) rfl (fun tk => ?_)) | (with_reducible refine wpAny_Assign_Name ?_ (by with_unfolding_all rfl))))
  refine r_last ⟨_, N.get (by k_mem), rfl, _, rfl⟩ iM (by simpa using hM1) (by simpa using hml) (fun tm => ?_) rfl
  rw [hlast]
  (repeat (first | with_reducible refine wpAny_execs_cons ?_ | with_reducible refine Subscript_ ?_ | ((with_reducible show wpAny _ _ (eval (Expr.Name _ _) _) _ _ _); (first | (refine nameX_L (v := _) F (by (repeat (first | with_reducible assumption | with_reducible exact up_eq _ _ _ | refine (up_ne (by decide)).trans ?_ | exact rfl))) ?_ rfl rfl (by decide)) | (refine nameX_C (c := _) (o := _) (v := _) N rfl (by k_mem) (by assumption) ?_ rfl rfl (by decide)) | (refine r_glob G F (by k_is) ?_ rfl rfl (by decide)) | (refine r_boot G F (by boot_fast) (by k_is) (by decide) ?_ rfl rfl (by decide)))) | (with_reducible refine Attribute_any_ ?_ (by with_unfolding_all rfl)) | ((with_reducible show wpAny _ _ (getAttr (Value.ref _) _ _) _ _ _); refine z_attr (attr := _) (v := _) G F (F.keep _ _ (by with_reducible assumption)) (by first | exact F.keep _ _ (by with_reducible assumption) | exact N.get (by k_mem)) (by k_is) (by k_is) (by k_is) (by k_is) (by k_get) rfl (fun tk => ?_)) | (with_reducible refine wpAny_Assign_Name ?_ (by with_unfolding_all rfl)) | ((with_reducible show wpAny _ _ (storeName _ _ _) _ _ _); (refine z_store F N ?_ rfl rfl; clear F N; intro h tk F N hg))))
  refine r_item ⟨_, N.get (by k_mem), rfl, _, rfl⟩ iO (by (first | lia | omega)) (by (first | lia | omega)) (by (first | lia | omega)) (fun tc => ?_) rfl
  rw [Int.toNat_natCast]
  (repeat (first | with_reducible refine wpAny_execs_cons ?_ | ((with_reducible show wpAny _ _ (storeName _ _ _) _ _ _); (refine z_store F N ?_ rfl rfl; clear F N; intro h tk F N hg))))
  refine wpAny_For ?_ (fun _ => rfl)
  (repeat (first | with_reducible refine Subscript_ ?_ | ((with_reducible show wpAny _ _ (eval (Expr.Name _ _) _) _ _ _); (first | (refine nameX_L (v := _) F (by (repeat (first | with_reducible assumption | with_reducible exact up_eq _ _ _ | refine (up_ne (by decide)).trans ?_ | exact rfl))) ?_ rfl rfl (by decide)) | (refine nameX_C (c := _) (o := _) (v := _) N rfl (by k_mem) (by assumption) ?_ rfl rfl (by decide)) | (refine r_glob G F (by k_is) ?_ rfl rfl (by decide)) | (refine r_boot G F (by boot_fast) (by k_is) (by decide) ?_ rfl rfl (by decide)))) | (with_reducible refine Attribute_any_ ?_ (by with_unfolding_all rfl)) | ((with_reducible show wpAny _ _ (getAttr (Value.ref _) _ _) _ _ _); refine z_attr (attr := _) (v := _) G F (F.keep _ _ (by with_reducible assumption)) (by first | exact F.keep _ _ (by with_reducible assumption) | exact N.get (by k_mem)) (by k_is) (by k_is) (by k_is) (by k_is) (by k_get) rfl (fun tk => ?_))))
  refine wpAny_Slice (wpAny_evalPart_some ?_)
  (repeat (first | ((with_reducible show wpAny _ _ (eval (Expr.Name _ _) _) _ _ _); (first | (refine nameX_L (v := _) F (by (repeat (first | with_reducible assumption | with_reducible exact up_eq _ _ _ | refine (up_ne (by decide)).trans ?_ | exact rfl))) ?_ rfl rfl (by decide)) | (refine nameX_C (c := _) (o := _) (v := _) N rfl (by k_mem) (by assumption) ?_ rfl rfl (by decide)) | (refine r_glob G F (by k_is) ?_ rfl rfl (by decide)) | (refine r_boot G F (by boot_fast) (by k_is) (by decide) ?_ rfl rfl (by decide))))))
  refine wpAny_evalPart_none (wpAny_evalPart_none ?_)
  refine r_from F N (IsL.isList (N.get (by k_mem))) iO (by (first | lia | omega)) (fun D ws h F N hlt iD => ?_) rfl
  have nM := hlt _ (List.mem_cons_self ..)
  have nW := hlt _ (List.mem_cons_of_mem _ (List.mem_cons_self ..))
  have nO := hlt _ (List.mem_cons_of_mem _ (List.mem_cons_of_mem _ (List.mem_cons_self ..)))
  clear hlt
  have hDL : D ≠ L := (N _ (List.mem_cons_self ..)).2.1
  have iDn : D ≠ h.objs.size := news_ne N _ (List.mem_cons_self ..)
  have iMn : aM ≠ h.objs.size := news_ne N (aM, _) (List.mem_cons_of_mem _ (List.mem_cons_self ..))
  have iWn : aW ≠ h.objs.size := news_ne N (aW, _) (List.mem_cons_of_mem _ (List.mem_cons_of_mem _ (List.mem_cons_self ..)))
  have iOn : aO ≠ h.objs.size := news_ne N (aO, _) (List.mem_cons_of_mem _ (List.mem_cons_of_mem _ (List.mem_cons_of_mem _ (List.mem_cons_self ..))))
  have hIL := ne_frame F
  have hIg := fresh_of F.keep
  refine for_list (items := ws.toArray) (fun i m s' => Same s s' ∧ m "self" = some (.ref x) ∧ (∃ t, m "mark" = some (.int (j : Nat) t)) ∧ (∃ t, m "choice" = some (.int (O.getD j 0) t)) ∧ ∃ W' vW qW,
      News g L s'.heap [(D, listOf ws.toArray 0), (aM, listOf vM.toArray qM), (aW, listOf vW.toArray qW), (aO, listOf vO.toArray qO)] ∧ IntsAre vW W' ∧ W'.length = n + 1 ∧ clearW W (O.drop j) = clearW W' ((O.drop j).drop i))
    R.handled (IsL.isList (N.get (List.mem_cons_self ..))) hDL rfl rfl F ?_ ?_ ?_ ?_
  · intro h' tk' kp
    exact ⟨Same.of _ _ _, rfl, ⟨_, rfl⟩, ⟨_, rfl⟩, W, _, _, N.grown kp, iW, tr.len, rfl⟩
  · rintro i m s₁ h' tk' ⟨a, b, c, c', W', vW', qW', N', d⟩ kp
    refine ⟨a.set _ _, b, c, c', W', vW', qW', news_move N' (fun p hp => ?_) kp, d⟩
    simp only [List.mem_cons, List.not_mem_nil, or_false] at hp
    rcases hp with q | q | q | q
    · rw [q]; exact iDn
    · rw [q]; exact iMn
    · rw [q]; exact iWn
    · rw [q]; exact iOn
  · rintro i v m s₁ E' hy ⟨hs₁, hm1, ⟨tm', hm2⟩, ⟨tc', hm3⟩, W', vW', qW', N', iW', len', hcl⟩ F' - ⟨oI, hoI⟩
    obtain ⟨tl, rfl, hi⟩ := ints_at iD hy
    have hmem : (O.drop j).getD i 0 ∈ O := List.mem_of_mem_drop (getD_mem hi)
    have hval := tr.val _ hmem
    have hd1 : (O.drop j).drop i = (O.drop j).getD i 0 :: (O.drop j).drop (i + 1) := by
      have : (O.drop j)[i]? = some ((O.drop j).getD i 0) := by
        rw [List.getD_eq_getElem?_getD, List.getElem?_eq_getElem hi]; rfl
      exact drop_at this
    rw [hd1] at hcl
    generalize (O.drop j).getD i 0 = l at *
    replace F := F'
    replace N := N'
    clear F' N'
    replace F : Fr g L s₁.heap (up m "lit" (.int l tl)) := F
    have hD₁ := N.get (List.mem_cons_self ..)
    replace N := news_cons N hoI hIL hIg
    refine hideQ (fun Q₁ hQ₁ => ?_)
    (repeat (first | with_reducible refine wpAny_execs_cons ?_ | with_reducible refine z_int ?_ | ((with_reducible show wpAny _ _ (eval (Expr.Name _ _) _) _ _ _); (first | (refine nameX_L (v := _) F (by (repeat (first | with_reducible assumption | with_reducible exact up_eq _ _ _ | refine (up_ne (by decide)).trans ?_ | exact rfl))) ?_ rfl rfl (by decide)) | (refine nameX_C (c := _) (o := _) (v := _) N rfl (by k_mem) (by assumption) ?_ rfl rfl (by decide)) | (refine r_glob G F (by k_is) ?_ rfl rfl (by decide)) | (refine r_boot G F (by boot_fast) (by k_is) (by decide) ?_ rfl rfl (by decide)))) | (with_reducible refine args_cons ?_ rfl) | (with_reducible refine args_nil ?_) | ((with_reducible show wpAny _ _ (callWith _ (Value.builtin _) [] _ []) _ _ _); refine callWith_builtin1 ?_ rfl rfl) | (with_reducible refine Call_ ?_ rfl) | (with_reducible refine wpAny_Assign_Subscript ?_ (by with_unfolding_all rfl)) | (with_reducible refine Attribute_any_ ?_ (by with_unfolding_all rfl)) | ((with_reducible show wpAny _ _ (getAttr (Value.ref _) _ _) _ _ _); refine z_attr (attr := _) (v := _) G F (F.keep _ _ (by with_reducible assumption)) (by first | exact F.keep _ _ (by with_reducible assumption) | exact N.get (by k_mem)) (by k_is) (by k_is) (by k_is) (by k_is) (by k_get) rfl (fun tk => ?_))))
    refine z_abs (fun ta tk => ?_)
    have hab : (if l < 0 then -l else l) = ((l.natAbs : Nat) : Int) := by split <;> (first | lia | omega)
    rw [hab]
    have hv1 := hval.1
    have hv2 := hval.2
    refine z_set F N (Upd.tail (Ne.symm iWn) (Upd.tail (Nat.ne_of_gt nW) (Upd.tail (Ne.symm hwm) (Upd.head (by simpa using Ne.symm hwo))))) iW' (by (first | lia | omega)) (by (first | lia | omega)) (by (first | lia | omega)) (fun h F N iW'' => ?_)
    rw [Int.toNat_natCast] at iW'' N
    (repeat (first | with_reducible refine wpAny_execs_nil ?_))
    refine hQ₁ .next _ ⟨_, F, news_at N (List.mem_cons_self ..) hoI, news_at N (List.mem_cons_of_mem _ (List.mem_cons_self ..)) hD₁, hs₁.set _ _, (up_ne (by decide)).trans hm1, ⟨_, (up_ne (by decide)).trans hm2⟩, ⟨_, (up_ne (by decide)).trans hm3⟩, W'.set l.natAbs 0, _, _, news_sub N (fun p hp => List.mem_cons_of_mem _ hp), iW'', by simpa using len', hcl⟩
  · rintro m s₁ ⟨hs₁, hm1, ⟨tm', hm2⟩, ⟨tc', hm3⟩, W', vW', qW', N', iW', len', hcl⟩ F'
    have hsz : ws.toArray.size = (O.drop j).length := by simp [iD.length]
    rw [hsz, List.drop_length] at hcl
    replace hcl : clearW W (O.drop j) = W' := hcl
    replace F := F'
    replace N := N'
    clear F' N'
    show wpAny _ _ _ _ _ _
    (repeat (first | with_reducible refine wpAny_execs_cons ?_))
    refine wpAny_Delete (wpAny_deleteEach_cons (wpAny_delete_Subscript ?_))
    (repeat (first | ((with_reducible show wpAny _ _ (eval (Expr.Name _ _) _) _ _ _); (first | (refine nameX_L (v := _) F (by (repeat (first | with_reducible assumption | with_reducible exact up_eq _ _ _ | refine (up_ne (by decide)).trans ?_ | exact rfl))) ?_ rfl rfl (by decide)) | (refine nameX_C (c := _) (o := _) (v := _) N rfl (by k_mem) (by assumption) ?_ rfl rfl (by decide)) | (refine r_glob G F (by k_is) ?_ rfl rfl (by decide)) | (refine r_boot G F (by boot_fast) (by k_is) (by decide) ?_ rfl rfl (by decide)))) | (with_reducible refine Attribute_any_ ?_ (by with_unfolding_all rfl)) | ((with_reducible show wpAny _ _ (getAttr (Value.ref _) _ _) _ _ _); refine z_attr (attr := _) (v := _) G F (F.keep _ _ (by with_reducible assumption)) (by first | exact F.keep _ _ (by with_reducible assumption) | exact N.get (by k_mem)) (by k_is) (by k_is) (by k_is) (by k_is) (by k_get) rfl (fun tk => ?_))))
    refine wpAny_Slice (wpAny_evalPart_some ?_)
    (repeat (first | ((with_reducible show wpAny _ _ (eval (Expr.Name _ _) _) _ _ _); (first | (refine nameX_L (v := _) F (by (repeat (first | with_reducible assumption | with_reducible exact up_eq _ _ _ | refine (up_ne (by decide)).trans ?_ | exact rfl))) ?_ rfl rfl (by decide)) | (refine nameX_C (c := _) (o := _) (v := _) N rfl (by k_mem) (by assumption) ?_ rfl rfl (by decide)) | (refine r_glob G F (by k_is) ?_ rfl rfl (by decide)) | (refine r_boot G F (by boot_fast) (by k_is) (by decide) ?_ rfl rfl (by decide))))))
    refine wpAny_evalPart_none (wpAny_evalPart_none ?_)
    refine r_del (news' := fun q' => [(D, listOf ws.toArray 0), (aM, listOf vM.toArray qM), (aW, listOf vW'.toArray qW'), (aO, listOf (vO.take j).toArray q')]) (F.push _) (N.grown fun b o e => Heap.get?_push_of_some _ e) (Heap.IsSliceOf.new ..) (IsPart.int _ _) iO (by rw [if_neg (by (first | lia | omega))]) (by (first | lia | omega)) (by (first | lia | omega))
      (fun q' => Upd.tail (Nat.ne_of_gt nO) (Upd.tail (Ne.symm hom) (Upd.tail hwo (Upd.head (by simp))))) (fun h q' F N iO' => ?_)
    refine wpAny_deleteEach_nil ?_
    (repeat (first | with_reducible refine wpAny_execs_cons ?_))
    refine wpAny_Delete (wpAny_deleteEach_cons (wpAny_delete_Subscript ?_))
    (repeat (first | ((with_reducible show wpAny _ _ (eval (Expr.Name _ _) _) _ _ _); (first | (refine nameX_L (v := _) F (by (repeat (first | with_reducible assumption | with_reducible exact up_eq _ _ _ | refine (up_ne (by decide)).trans ?_ | exact rfl))) ?_ rfl rfl (by decide)) | (refine nameX_C (c := _) (o := _) (v := _) N rfl (by k_mem) (by assumption) ?_ rfl rfl (by decide)) | (refine r_glob G F (by k_is) ?_ rfl rfl (by decide)) | (refine r_boot G F (by boot_fast) (by k_is) (by decide) ?_ rfl rfl (by decide)))) | (with_reducible refine Attribute_any_ ?_ (by with_unfolding_all rfl)) | ((with_reducible show wpAny _ _ (getAttr (Value.ref _) _ _) _ _ _); refine z_attr (attr := _) (v := _) G F (F.keep _ _ (by with_reducible assumption)) (by first | exact F.keep _ _ (by with_reducible assumption) | exact N.get (by k_mem)) (by k_is) (by k_is) (by k_is) (by k_is) (by k_get) rfl (fun tk => ?_))))
    refine wpAny_Slice (wpAny_evalPart_some ?_)
    (repeat (first | with_reducible refine UnaryOp_ ?_ | with_reducible refine z_int ?_ | with_reducible refine z_neg ?_))
    refine wpAny_evalPart_none (wpAny_evalPart_none ?_)
    refine r_del (a := M.length - 1) (news' := fun q'' => [(D, listOf ws.toArray 0), (aM, listOf (vM.take (M.length - 1)).toArray q''), (aW, listOf vW'.toArray qW'), (aO, listOf (vO.take j).toArray q')]) (F.push _) (N.grown fun b o e => Heap.get?_push_of_some _ e) (Heap.IsSliceOf.new ..) (IsPart.int _ _) iM (by rw [if_pos (by decide), List.length_map]; (first | lia | omega)) (by rw [List.length_map]; (first | lia | omega)) (by rw [List.length_map]; (first | lia | omega))
      (fun q' => Upd.tail (Nat.ne_of_gt nM) (Upd.head (by simp [hwm, hom]))) (fun h q'' F N iM' => ?_)
    refine wpAny_deleteEach_nil ?_
    (repeat (first | with_reducible refine wpAny_execs_cons ?_ | with_reducible refine wpAny_Return_some ?_ | ((with_reducible show wpAny _ _ (eval (Expr.Name _ _) _) _ _ _); (first | (refine nameX_L (v := _) F (by (repeat (first | with_reducible assumption | with_reducible exact up_eq _ _ _ | refine (up_ne (by decide)).trans ?_ | exact rfl))) ?_ rfl rfl (by decide)) | (refine nameX_C (c := _) (o := _) (v := _) N rfl (by k_mem) (by assumption) ?_ rfl rfl (by decide)) | (refine r_glob G F (by k_is) ?_ rfl rfl (by decide)) | (refine r_boot G F (by boot_fast) (by k_is) (by decide) ?_ rfl rfl (by decide))))))
    refine hQ₀ (.ret _) _ (ret _ _ (hs₁.set _ _) F.keep ⟨hwo, hwm, hom, ⟨_, _, N.get (by k_mem), hcl ▸ iW'⟩, ⟨_, _, N.get (by k_mem), iO'⟩, ⟨_, _, N.get (by k_mem), ?_⟩⟩)
    rw [List.dropLast_eq_take, List.map_take]
    exact iM'
end
end Mine
namespace Mine
section
variable {prog : Program} {w : World} {A : Around} {E : Value → Shared → Prop} {s : Shared} {p : Program} {loose : List Str} {mg mb : Str → Option Value}

theorem snapshot_ok {Q : Value → Shared → Prop} {x aW aO aM : Addr} {W O : List Int} {M : List Nat} {n : Nat}
    (G : Gd (hd.heap_39 w.params) p loose mg mb s.heap) (R : Room A 1) (T : TrailAt w.params s.heap x n aW aO aM) (S : TrSt s.heap aW aO aM W O M)
    (hw : W.length ≤ 1000) (ho : O.length ≤ 1000) (hm : M.length ≤ 1000)
    (ret : ∀ T v₁ v₂ v₃ s', Same s s' → Keep s.heap s'.heap → IsTup s'.heap T #[v₁, v₂, v₃] → Q (.ref T) s') :
    wpAny (model prog w) A (call (.ref 108) [.ref x]) Q E s := by
  obtain ⟨dx, t₁, t₂, t₃, t₄, t₅, hx, hdx⟩ := T
  obtain ⟨hwo, hwm, hom, ⟨vW, qW, eW, iW⟩, ⟨vO, qO, eO, iO⟩, ⟨vM, qM, eM, iM⟩⟩ := S
  have zW : vW.toArray.size ≤ sizeLine := by simp only [List.size_toArray]; rw [iW.length]; exact Nat.le_trans hw (by decide)
  have zO : vO.toArray.size ≤ sizeLine := by simp only [List.size_toArray]; rw [iO.length]; exact Nat.le_trans ho (by decide)
  have zM : vM.toArray.size ≤ sizeLine := by simp only [List.size_toArray]; rw [iM.length, List.length_map]; exact Nat.le_trans hm (by decide)
  refine enter (g := s.heap) (binds := [("self", .ref x)]) G (Keep.refl _) (Nat.le_refl _) (by k_is) (by k_is) R.room (BindsTo.of_eq rfl) (locs rfl) ?_ rfl rfl rfl (by decide)
  intro L h tk F hk hL
  have N : News s.heap L h [] := News.nil
  (repeat (first | with_reducible refine wpAny_execs_cons ?_ | with_reducible refine wpAny_Return_some ?_ | with_reducible refine Tuple_ ?_ | ((with_reducible show wpAny _ _ (eval (Expr.Name _ _) _) _ _ _); (first | (refine nameX_L (v := _) F (by (repeat (first | with_reducible assumption | with_reducible exact up_eq _ _ _ | refine (up_ne (by decide)).trans ?_ | exact rfl))) ?_ rfl rfl (by decide)) | (refine nameX_C (c := _) (o := _) (v := _) N rfl (by k_mem) (by assumption) ?_ rfl rfl (by decide)) | (refine r_glob G F (by k_is) ?_ rfl rfl (by decide)) | (refine r_boot G F (by boot_fast) (by k_is) (by decide) ?_ rfl rfl (by decide)))) | (with_reducible refine args_cons ?_ rfl) | (with_reducible refine args_nil ?_) | ((with_reducible show wpAny _ _ (callWith _ (Value.type _) [] _ []) _ _ _); refine Pv.callWith_type1 ?_ rfl rfl) | (with_reducible refine Call_ ?_ rfl) | (with_reducible refine Attribute_any_ ?_ (by with_unfolding_all rfl)) | ((with_reducible show wpAny _ _ (getAttr (Value.ref _) _ _) _ _ _); refine z_attr (attr := _) (v := _) G F (F.keep _ _ (by with_reducible assumption)) (by first | exact F.keep _ _ (by with_reducible assumption) | exact N.get (by k_mem)) (by k_is) (by k_is) (by k_is) (by k_is) (by k_get) rfl (fun tk => ?_))))
  refine list_copyK F N (IsL.isList (F.keep _ _ eW)) (fun D₁ c₁ h F N _ => ?_) zW
  (repeat (first | ((with_reducible show wpAny _ _ (eval (Expr.Name _ _) _) _ _ _); (first | (refine nameX_L (v := _) F (by (repeat (first | with_reducible assumption | with_reducible exact up_eq _ _ _ | refine (up_ne (by decide)).trans ?_ | exact rfl))) ?_ rfl rfl (by decide)) | (refine nameX_C (c := _) (o := _) (v := _) N rfl (by k_mem) (by assumption) ?_ rfl rfl (by decide)) | (refine r_glob G F (by k_is) ?_ rfl rfl (by decide)) | (refine r_boot G F (by boot_fast) (by k_is) (by decide) ?_ rfl rfl (by decide)))) | (with_reducible refine args_cons ?_ rfl) | (with_reducible refine args_nil ?_) | ((with_reducible show wpAny _ _ (callWith _ (Value.type _) [] _ []) _ _ _); refine Pv.callWith_type1 ?_ rfl rfl) | (with_reducible refine Call_ ?_ rfl) | (with_reducible refine Attribute_any_ ?_ (by with_unfolding_all rfl)) | ((with_reducible show wpAny _ _ (getAttr (Value.ref _) _ _) _ _ _); refine z_attr (attr := _) (v := _) G F (F.keep _ _ (by with_reducible assumption)) (by first | exact F.keep _ _ (by with_reducible assumption) | exact N.get (by k_mem)) (by k_is) (by k_is) (by k_is) (by k_is) (by k_get) rfl (fun tk => ?_))))
  refine list_copyK F N (IsL.isList (F.keep _ _ eO)) (fun D₂ c₂ h F N _ => ?_) zO
  (repeat (first | ((with_reducible show wpAny _ _ (eval (Expr.Name _ _) _) _ _ _); (first | (refine nameX_L (v := _) F (by (repeat (first | with_reducible assumption | with_reducible exact up_eq _ _ _ | refine (up_ne (by decide)).trans ?_ | exact rfl))) ?_ rfl rfl (by decide)) | (refine nameX_C (c := _) (o := _) (v := _) N rfl (by k_mem) (by assumption) ?_ rfl rfl (by decide)) | (refine r_glob G F (by k_is) ?_ rfl rfl (by decide)) | (refine r_boot G F (by boot_fast) (by k_is) (by decide) ?_ rfl rfl (by decide)))) | (with_reducible refine args_cons ?_ rfl) | (with_reducible refine args_nil ?_) | ((with_reducible show wpAny _ _ (callWith _ (Value.type _) [] _ []) _ _ _); refine Pv.callWith_type1 ?_ rfl rfl) | (with_reducible refine Call_ ?_ rfl) | (with_reducible refine Attribute_any_ ?_ (by with_unfolding_all rfl)) | ((with_reducible show wpAny _ _ (getAttr (Value.ref _) _ _) _ _ _); refine z_attr (attr := _) (v := _) G F (F.keep _ _ (by with_reducible assumption)) (by first | exact F.keep _ _ (by with_reducible assumption) | exact N.get (by k_mem)) (by k_is) (by k_is) (by k_is) (by k_is) (by k_get) rfl (fun tk => ?_))))
  refine list_copyK F N (IsL.isList (F.keep _ _ eM)) (fun D₃ c₃ h F N _ => ?_) zM
  (repeat (first | (with_reducible refine args_nil ?_) | ((with_reducible show wpAny _ _ (newTuple _) _ _ _); (refine z_newTuple F N ?_ (by size_fits)); clear F N; intro h F N)))
  exact ret _ _ _ _ _ (Same.of _ _ _) F.keep ⟨_, N.get (List.mem_cons_self ..), rfl, _, rfl⟩

theorem decisions_ok {Q : Value → Shared → Prop} {x aW aO aM : Addr} {W O : List Int} {M : List Nat} {n : Nat}
    (G : Gd (hd.heap_39 w.params) p loose mg mb s.heap) (R : Room A 1) (T : TrailAt w.params s.heap x n aW aO aM) (S : TrSt s.heap aW aO aM W O M)
    (ho : O.length ≤ 1000) (hm : M.length ≤ 1000) (hin : ∀ j ∈ M, j < O.length)
    (ret : ∀ D its s', Same s s' → Keep s.heap s'.heap → s'.heap.IsList D (List.toArray its) → IntsAre its (M.map fun j => O.getD j 0) → Q (.ref D) s') :
    wpAny (model prog w) A (call (.ref 94) [.ref x]) Q E s := by
  obtain ⟨dx, t₁, t₂, t₃, t₄, t₅, hx, hdx⟩ := T
  obtain ⟨hwo, hwm, hom, ⟨vW, qW, eW, iW⟩, ⟨vO, qO, eO, iO⟩, ⟨vM, qM, eM, iM⟩⟩ := S
  have zM : vM.toArray.size = M.length := by simp only [List.size_toArray]; rw [iM.length, List.length_map]
  refine enterC (g := s.heap) (binds := [("self", .ref x)]) G (Keep.refl _) (Nat.le_refl _) (by k_is) (by k_is) R.room (BindsTo.of_eq rfl) rfl (by decide +kernel) ?_ rfl rfl rfl
  intro L h tk cells F N Y hk hL
  obtain ⟨oc, rfl, dc⟩ := CellsAre.one (n := "self") (c := L + 1) Y
  replace dc : oc.data = .cell (some (.ref x)) := dc
  (repeat (first | with_reducible refine wpAny_execs_cons ?_ | with_reducible refine wpAny_Return_some ?_))
  refine comp_expr (cl := [("self", L + 1)]) rfl (by decide) rfl (by decide) rfl ?_ (fun _ => rfl)
  (repeat (first | ((with_reducible show wpAny _ _ (eval (Expr.Name _ _) _) _ _ _); (first | (refine nameX_L (v := _) F (by (repeat (first | with_reducible assumption | with_reducible exact up_eq _ _ _ | refine (up_ne (by decide)).trans ?_ | exact rfl))) ?_ rfl rfl (by decide)) | (refine nameX_C (c := _) (o := _) (v := _) N rfl (by k_mem) (by assumption) ?_ rfl rfl (by decide)) | (refine r_glob G F (by k_is) ?_ rfl rfl (by decide)) | (refine r_boot G F (by boot_fast) (by k_is) (by decide) ?_ rfl rfl (by decide)))) | (with_reducible refine Attribute_any_ ?_ (by with_unfolding_all rfl)) | ((with_reducible show wpAny _ _ (getAttr (Value.ref _) _ _) _ _ _); refine z_attr (attr := _) (v := _) G F (F.keep _ _ (by with_reducible assumption)) (by first | exact F.keep _ _ (by with_reducible assumption) | exact N.get (by k_mem)) (by k_is) (by k_is) (by k_is) (by k_is) (by k_get) rfl (fun tk => ?_))))
  refine wpAny_mono (src_list (show A.handled = none from R.handled) (IsL.isList (F.keep _ _ eM))) (fun it s₂ hit => ?_) fun _ _ e => e
  refine compIn_v hit (by rw [zM]; exact Nat.le_trans hm (by decide)) (fun i ys => IntsAre ys ((M.take i).map fun j => O.getD j 0)) (by simpa using IntsAre.nil) ?_ ?_
  · intro C i ys v s₃ m₃ E' hi' hv hj sm kp hn₃ hm₃
    obtain ⟨t, rfl, hlt⟩ := ints_at iM hv
    rw [List.length_map] at hlt
    have hM : M[i]? = some M[i] := List.getElem?_eq_getElem hlt
    have e : (M.map fun j => ((j : Nat) : Int)).getD i 0 = (M[i] : Nat) := by
      rw [List.getD_eq_getElem?_getD, List.getElem?_map, hM]; rfl
    rw [e] at hm₃
    have hb := hin _ (List.getElem_mem hlt)
    have G₃ := G.keeps (fun b o e => kp b o (F.keep b o e))
    have dc₃ : s₃.heap.IsCell (L + 1) (some (.ref x)) := ⟨oc, kp _ _ (N.get (List.mem_cons_self ..)), dc⟩
    replace F := F.keeps kp
    refine tests_nil ?_
    refine ⟨Same.refl _, Keep.refl _, ?_⟩
    simp only [if_true]
    refine Subscript_ ?_
    refine Attribute_any_ ?_ (by with_unfolding_all rfl)
    refine e_cell (c := L + 1) rfl dc₃ ?_ rfl rfl (by decide)
    ((with_reducible show wpAny _ _ (getAttr (Value.ref _) _ _) _ _ _); refine z_attr (attr := _) (v := _) G F (F.keep _ _ (by with_reducible assumption)) (by first | exact F.keep _ _ (by with_reducible assumption) | exact N.get (by k_mem)) (by k_is) (by k_is) (by k_is) (by k_is) (by k_get) rfl (fun tk => ?_))
    refine e_local hn₃ hm₃ ?_ rfl rfl (by decide)
    refine r_item (IsL.isList (F.keep _ _ eO)) iO (by (first | lia | omega)) (by (first | lia | omega)) (by (first | lia | omega)) (fun t => ?_) rfl
    rw [Int.toNat_natCast]
    refine ⟨Same.of _ _ _, Keep.refl _, ?_⟩
    rw [List.take_add_one, hM, List.map_append]
    exact IntsAre.append hj (IntsAre.cons _ _ IntsAre.nil)
  · intro C D ys s' hCD hC hD hj sm kp hpl
    rw [zM, List.take_length] at hj
    obtain ⟨q, e⟩ := hpl
    exact ret _ _ _ ((Same.of _ _ _).trans sm) (fun b o e => kp b o (F.keep b o e)) (IsL.isList e) hj
end
end Mine
namespace Mine
/-- a Solver's own names -/
abbrev sEs (P : Params) (t₁ t₂ t₃ t₄ t₅ tn tc : Tok) (n cf : Int) (aC xT aP : Addr) : List DictEntry :=
  [⟨PyData.keyHash P "n", .str "n" t₁, .int n tn⟩, ⟨PyData.keyHash P "clauses", .str "clauses" t₂, .ref aC⟩, ⟨PyData.keyHash P "trail", .str "trail" t₃, .ref xT⟩, ⟨PyData.keyHash P "proof", .str "proof" t₄, .ref aP⟩, ⟨PyData.keyHash P "conflicts", .str "conflicts" t₅, .int cf tc⟩]
structure SolSt (P : Params) (h : Heap) (x dS aC xT aP aW aO aM : Addr) (n : Nat) (W O : List Int) (M : List Nat) (vP : List Value) : Prop where
  inst : h.get? x = some (instObj 156 dS)
  dict : ∃ t₁ t₂ t₃ t₄ t₅ tn tc cf, h.get? dS = some (dictOf (sEs P t₁ t₂ t₃ t₄ t₅ tn tc (n : Nat) cf aC xT aP) 5)
  tr : TrailAt P h xT n aW aO aM
  st : TrSt h aW aO aM W O M
  pf : ∃ q, h.get? aP = some (listOf vP.toArray q)
  pw : aP ≠ aW
  po : aP ≠ aO
  pm : aP ≠ aM
theorem SolSt.keep {P : Params} {h h' : Heap} {x dS aC xT aP aW aO aM : Addr} {n : Nat} {W O : List Int} {M : List Nat} {vP : List Value} (S : SolSt P h x dS aC xT aP aW aO aM n W O M vP) (k : Keep h h') :
    SolSt P h' x dS aC xT aP aW aO aM n W O M vP :=
  let ⟨a, ⟨b1, b2, b3, b4, b5, b6, b7, b8, b⟩, c, d, ⟨q, e⟩, f1, f2, f3⟩ := S
  ⟨k _ _ a, ⟨b1, b2, b3, b4, b5, b6, b7, b8, k _ _ b⟩, c.keep k, d.keep k, ⟨q, k _ _ e⟩, f1, f2, f3⟩
/-- what a solver's methods may turn -/
abbrev sFp (dS aP aW aO aM : Addr) : List Addr := [dS, aP, aM, aW, aO]
theorem mem5 {a b c d e y : Addr} : y ∉ [a, b, c, d, e] ↔ y ≠ a ∧ y ≠ b ∧ y ≠ c ∧ y ≠ d ∧ y ≠ e := by
  simp only [List.mem_cons, List.not_mem_nil, or_false, not_or]
theorem SolSt.hid {P : Params} {h : Heap} {x dS aC xT aP aW aO aM : Addr} {n : Nat} {W O : List Int} {M : List Nat} {vP : List Value} (S : SolSt P h x dS aC xT aP aW aO aM n W O M vP) :
    (hideAll h (sFp dS aP aW aO aM)).get? x = some (instObj 156 dS) ∧ TrailAt P (hideAll h (sFp dS aP aW aO aM)) xT n aW aO aM := by
  obtain ⟨a, ⟨b1, b2, b3, b4, b5, b6, b7, b8, b⟩, ⟨dT, t1, t2, t3, t4, t5, hT, hdT⟩, ⟨_, _, _, ⟨vW, qW, eW, _⟩, ⟨vO, qO, eO, _⟩, ⟨vM, qM, eM, _⟩⟩, ⟨q, e⟩, _, _, _⟩ := S
  refine ⟨hideAll_get _ a (mem5.mpr ⟨?_, ?_, ?_, ?_, ?_⟩), dT, t1, t2, t3, t4, t5, hideAll_get _ hT (mem5.mpr ⟨?_, ?_, ?_, ?_, ?_⟩), hideAll_get _ hdT (mem5.mpr ⟨?_, ?_, ?_, ?_, ?_⟩)⟩
  all_goals (first | exact ne_obj a b (fun q => nomatch q) | exact ne_obj a e (fun q => nomatch q) | exact ne_obj a eM (fun q => nomatch q) | exact ne_obj a eW (fun q => nomatch q) | exact ne_obj a eO (fun q => nomatch q) | exact ne_obj hT b (fun q => nomatch q) | exact ne_obj hT e (fun q => nomatch q) | exact ne_obj hT eM (fun q => nomatch q) | exact ne_obj hT eW (fun q => nomatch q) | exact ne_obj hT eO (fun q => nomatch q) | exact ne_obj hdT b (fun q => by injection q with q1 q2; exact absurd q2 (by decide)) | exact ne_obj hdT e (fun q => nomatch q) | exact ne_obj hdT eM (fun q => nomatch q) | exact ne_obj hdT eW (fun q => nomatch q) | exact ne_obj hdT eO (fun q => nomatch q))
theorem SolSt.ds {P : Params} {h : Heap} {x dS aC xT aP aW aO aM : Addr} {n : Nat} {W O : List Int} {M : List Nat} {vP : List Value} (S : SolSt P h x dS aC xT aP aW aO aM n W O M vP) : dS ≠ aP ∧ dS ≠ aM ∧ dS ≠ aW ∧ dS ≠ aO := by
  obtain ⟨_, ⟨b1, b2, b3, b4, b5, b6, b7, b8, b⟩, _, ⟨_, _, _, ⟨vW, qW, eW, _⟩, ⟨vO, qO, eO, _⟩, ⟨vM, qM, eM, _⟩⟩, ⟨q, e⟩, _, _, _⟩ := S
  exact ⟨ne_obj b e (by intro q; cases q), ne_obj b eM (by intro q; cases q), ne_obj b eW (by intro q; cases q), ne_obj b eO (by intro q; cases q)⟩

section
variable {prog : Program} {w : World} {A : Around} {E : Value → Shared → Prop} {s : Shared} {p : Program} {loose : List Str} {mg mb : Str → Option Value}
variable {x dS aC xT aP aW aO aM : Addr} {n : Nat} {W O : List Int} {M : List Nat} {vP : List Value}

theorem learn_ok {Q : Value → Shared → Prop}
    (G : Gd (hd.heap_39 w.params) p loose mg mb (hideAll s.heap (sFp dS aP aW aO aM))) (R : Room A 2) (S : SolSt w.params s.heap x dS aC xT aP aW aO aM n W O M vP)
    (ho : O.length ≤ 1000) (hm : M.length ≤ 1000) (hin : ∀ j ∈ M, j < O.length) (hp : vP.length ≤ 1000)
    (ret : ∀ T its c s', Same s s' → Keep (hideAll s.heap (sFp dS aP aW aO aM)) s'.heap → SolSt w.params s'.heap x dS aC xT aP aW aO aM n W O M (vP ++ [.ref T]) →
      @LE.le Nat _ s.heap.objs.size T → s'.heap.IsList T (List.toArray its) → IntsAre its c → c.length ≤ 1000 → Q .none s') :
    wpAny (model prog w) A (call (.ref 139) [.ref x]) Q E s := by
  have hd := S.ds
  obtain ⟨hx, TT⟩ := S.hid
  obtain ⟨-, ⟨k₁, k₂, k₃, k₄, k₅, sn, sc, cf, eD⟩, -, ⟨hwo, hwm, hom, ⟨vW, qW, eW, iW⟩, ⟨vO, qO, eO, iO⟩, ⟨vM, qM, eM, iM⟩⟩, ⟨qP, eP⟩, pw, po, pm⟩ := S
  have gA : ∀ b ∈ sFp dS aP aW aO aM, (hideAll s.heap (sFp dS aP aW aO aM)).get? b = none := fun b hb => hideAll_none _ hb
  refine enter (g := hideAll s.heap (sFp dS aP aW aO aM)) (binds := [("self", .ref x)]) G (keep_hide _) (Nat.le_of_eq (hideAll_size _ _)) (by k_is) (by k_is) R.room (BindsTo.of_eq rfl) (locs rfl) ?_ rfl rfl rfl (by decide)
  intro L h tk F hk hL
  have lt : ∀ {b : Addr} {o : Obj}, s.heap.get? b = some o → b ≠ L := fun e => Nat.ne_of_lt (Nat.lt_of_lt_of_le (Heap.lt_size e) hL)
  have hLs := hL
  have N : News (hideAll s.heap (sFp dS aP aW aO aM)) L h [(dS, dictOf (sEs w.params k₁ k₂ k₃ k₄ k₅ sn sc (n : Nat) cf aC xT aP) 5), (aP, listOf vP.toArray qP), (aM, listOf vM.toArray qM), (aW, listOf vW.toArray qW), (aO, listOf vO.toArray qO)] :=
    news_cons (news_cons (news_cons (news_cons (news_cons News.nil (hk _ _ eO) (lt eO) (gA _ (by simp))) (hk _ _ eW) (lt eW) (gA _ (by simp))) (hk _ _ eM) (lt eM) (gA _ (by simp))) (hk _ _ eP) (lt eP) (gA _ (by simp))) (hk _ _ eD) (lt eD) (gA _ (by simp))
  have LD := lt eD
  have hsz : s.heap.objs.size ≤ h.objs.size := Nat.le_trans hL (Nat.le_of_lt F.ns.lt)
  clear eW eO eM eP eD hk lt
  generalize hideAll s.heap (sFp dS aP aW aO aM) = g at *
  have TG := TT
  obtain ⟨dx, t₁, t₂, t₃, t₄, t₅, hxT, hdxT⟩ := TT
  (repeat (first | with_reducible refine wpAny_execs_cons ?_ | ((with_reducible show wpAny _ _ (eval (Expr.Name _ _) _) _ _ _); (first | (refine nameX_L (v := _) F (by (repeat (first | with_reducible assumption | with_reducible exact up_eq _ _ _ | refine (up_ne (by decide)).trans ?_ | exact rfl))) ?_ rfl rfl (by decide)) | (refine nameX_C (c := _) (o := _) (v := _) N rfl (by k_mem) (by assumption) ?_ rfl rfl (by decide)) | (refine r_glob G F (by k_is) ?_ rfl rfl (by decide)) | (refine r_boot G F (by boot_fast) (by k_is) (by decide) ?_ rfl rfl (by decide)))) | (with_reducible refine args_cons ?_ rfl) | ((with_reducible show wpAny _ _ (callWith _ (Value.builtin _) (_ :: _) _ []) _ _ _); refine callWith_method1 ?_ rfl rfl) | (with_reducible refine wpAny_Expr ?_ (by with_unfolding_all rfl) (by with_unfolding_all rfl)) | (with_reducible refine MethodCall_ (pl := _) ?_ (by with_unfolding_all rfl)) | ((with_reducible show wpAny _ _ (getMethod (Value.ref _) (Str.ofString "append") _) _ _ _); refine Calls.getMethod_list_append (o := _) (N.get (by k_mem)) rfl rfl ?_) | (with_reducible refine Attribute_any_ ?_ (by with_unfolding_all rfl)) | ((with_reducible show wpAny _ _ (getAttr (Value.ref _) _ _) _ _ _); refine z_attr (attr := _) (v := _) G F (F.keep _ _ (by with_reducible assumption)) (by first | exact F.keep _ _ (by with_reducible assumption) | exact N.get (by k_mem)) (by k_is) (by k_is) (by k_is) (by k_is) (by k_get) rfl (fun tk => ?_))))
  refine comp_expr (cl := []) rfl (by decide) rfl (by decide) rfl ?_ (fun _ => rfl)
  (repeat (first | ((with_reducible show wpAny _ _ (eval (Expr.Name _ _) _) _ _ _); (first | (refine nameX_L (v := _) F (by (repeat (first | with_reducible assumption | with_reducible exact up_eq _ _ _ | refine (up_ne (by decide)).trans ?_ | exact rfl))) ?_ rfl rfl (by decide)) | (refine nameX_C (c := _) (o := _) (v := _) N rfl (by k_mem) (by assumption) ?_ rfl rfl (by decide)) | (refine r_glob G F (by k_is) ?_ rfl rfl (by decide)) | (refine r_boot G F (by boot_fast) (by k_is) (by decide) ?_ rfl rfl (by decide)))) | (with_reducible refine MethodCall_ (pl := _) ?_ (by with_unfolding_all rfl)) | (with_reducible refine Attribute_any_ ?_ (by with_unfolding_all rfl)) | ((with_reducible show wpAny _ _ (getAttr (Value.ref _) _ _) _ _ _); refine z_attr (attr := _) (v := _) G F (F.keep _ _ (by with_reducible assumption)) (by first | exact F.keep _ _ (by with_reducible assumption) | exact N.get (by k_mem)) (by k_is) (by k_is) (by k_is) (by k_is) (by k_get) rfl (fun tk => ?_)) | ((with_reducible show wpAny _ _ (getMethod (Value.ref _) _ _) _ _ _); refine r_meth (f := _) G F (F.keep _ _ (by with_reducible assumption)) (by first | exact F.keep _ _ (by with_reducible assumption) | exact N.get (by k_mem)) (by k_is) (by k_is) (by k_is) rfl ?_) | ((with_reducible show wpAny _ _ (callWith _ (Value.ref _) (_ :: _) (backTo _ (starEach [] _)) []) _ _ _); refine r_callm0 G F.keep (by k_is) ?_)))
  refine decisions_ok (G.keeps F.keep) (R.deeper _) (TG.keep F.keep) ⟨hwo, hwm, hom, ⟨_, _, N.get (by k_mem), iW⟩, ⟨_, _, N.get (by k_mem), iO⟩, ⟨_, _, N.get (by k_mem), iM⟩⟩ ho hm hin (fun D its s' sm kp hD hits => ?_)
  replace F := F.keeps kp
  replace N := N.grown kp
  have zD : its.toArray.size = M.length := by simp only [List.size_toArray]; rw [hits.length, List.length_map]
  refine wpAny_mono (src_list (show A.handled = none from R.handled) hD) (fun it s₂ hit => ?_) fun _ _ e => e
  refine compIn_v hit (by rw [zD]; exact Nat.le_trans hm (by decide)) (fun i ys => ∃ c, IntsAre ys c ∧ c.length ≤ i) ⟨[], IntsAre.nil, Nat.le_refl _⟩ ?_ ?_
  · rintro C i ys v s₃ m₃ E' hi' hv ⟨c, hj, hcl⟩ sm kp hn₃ hm₃
    obtain ⟨t, rfl, hlt⟩ := ints_at hits hv
    refine tests_nil ?_
    refine ⟨Same.refl _, Keep.refl _, ?_⟩
    simp only [if_true]
    refine UnaryOp_ ?_
    refine e_local hn₃ hm₃ ?_ rfl rfl (by decide)
    refine z_neg ?_
    refine ⟨Same.of _ _ _, Keep.refl _, c ++ [_], IntsAre.append hj (IntsAre.cons _ _ IntsAre.nil), by simp; (first | lia | omega)⟩
  · rintro C D' ys s'' hCD hC hD' ⟨c, hj, hcl⟩ sm' kp' ⟨q, e⟩
    rw [zD] at hcl
    have hTs : @LT.lt Nat _ s.heap.objs.size D' := Nat.lt_of_le_of_lt hLs (Nat.lt_trans F.ns.lt hD')
    have eP' := N.get (List.mem_cons_of_mem _ (List.mem_cons_self ..))
    have eD' := N.get (List.mem_cons_self ..)
    have hgD : g.get? D' = none := by
      cases z : g.get? D' with
      | none => rfl
      | some o => exact absurd (Heap.lt_size (F.keep _ _ z)) (Nat.not_lt.mpr (Nat.le_of_lt hD'))
    have hDL' : D' ≠ L := Nat.ne_of_gt (Nat.lt_trans F.ns.lt hD')
    replace F := F.keeps kp'
    replace N := news_cons (N.grown kp') e hDL' hgD
    have nD : ∀ {b : Addr} {o : Obj}, s'.heap.get? b = some o → D' ≠ b := fun e q => by
      have := Heap.lt_size e; rw [← q] at this; exact Nat.lt_irrefl _ (Nat.lt_trans hD' this)
    (repeat (first | (with_reducible refine args_nil ?_)))
    refine z_append F N (Upd.tail (nD eP') (Upd.tail hd.1 (Upd.head (by simp only [List.mem_cons, List.not_mem_nil, or_false]; rintro q (q' | q' | q') <;> subst q' <;> first | exact Ne.symm pm | exact Ne.symm pw | exact Ne.symm po)))) (by (first | lia | omega)) (fun h F N sb => ?_)
    (repeat (first | with_reducible refine wpAny_execs_cons ?_))
    refine wpAny_AugAssign_AttributeAny ?_
    (repeat (first | with_reducible refine z_int ?_ | ((with_reducible show wpAny _ _ (eval (Expr.Name _ _) _) _ _ _); (first | (refine nameX_L (v := _) F (by (repeat (first | with_reducible assumption | with_reducible exact up_eq _ _ _ | refine (up_ne (by decide)).trans ?_ | exact rfl))) ?_ rfl rfl (by decide)) | (refine nameX_C (c := _) (o := _) (v := _) N rfl (by k_mem) (by assumption) ?_ rfl rfl (by decide)) | (refine r_glob G F (by k_is) ?_ rfl rfl (by decide)) | (refine r_boot G F (by boot_fast) (by k_is) (by decide) ?_ rfl rfl (by decide)))) | ((with_reducible show wpAny _ _ (getAttr (Value.ref _) _ _) _ _ _); refine z_attr (attr := _) (v := _) G F (F.keep _ _ (by with_reducible assumption)) (by first | exact F.keep _ _ (by with_reducible assumption) | exact N.get (by k_mem)) (by k_is) (by k_is) (by k_is) (by k_is) (by k_get) rfl (fun tk => ?_))))
    refine iadd_int ?_
    refine r_setattr (fun _ => sEs w.params k₁ k₂ k₃ k₄ k₅ sn _ (n : Nat) (cf + 1) aC xT aP) 5 G F N (F.keep _ _ hx) (by k_is) (by k_is) (by k_is) (by k_is) rfl (fun _ => rfl) (fun _ => Upd.tail (nD eD') (Upd.head (by simp only [List.mem_cons, List.not_mem_nil, or_false]; rintro q (q' | q' | q' | q') <;> subst q' <;> first | exact Ne.symm hd.1 | exact Ne.symm hd.2.1 | exact Ne.symm hd.2.2.1 | exact Ne.symm hd.2.2.2))) (fun _ => by simp) (fun h tk t F N => ?_)
    (repeat (first | with_reducible refine wpAny_execs_nil ?_))
    refine ret D' ys c _ (((Same.of s _ _).trans sm).trans (sm'.set _ _)) F.keep ⟨F.keep _ _ hx, ⟨k₁, k₂, k₃, k₄, k₅, sn, _, cf + 1, N.get (by k_mem)⟩, TG.keep F.keep, ⟨hwo, hwm, hom, ⟨_, _, N.get (by k_mem), iW⟩, ⟨_, _, N.get (by k_mem), iO⟩, ⟨_, _, N.get (by k_mem), iM⟩⟩, ⟨_, N.get (by k_mem)⟩, pw, po, pm⟩ (Nat.le_of_lt hTs) (IsL.isList (N.get (List.mem_cons_self ..))) hj (by (first | lia | omega))
end
end Mine
namespace Mine
section
variable {prog : Program} {w : World} {A : Around} {E : Value → Shared → Prop} {s : Shared} {p : Program} {loose : List Str} {mg mb : Str → Option Value}
variable {x dS aC xT aP aW aO aM : Addr} {n : Nat} {W O : List Int} {M : List Nat} {vP : List Value}

theorem list_hid {h h' : Heap} {as : List Addr} {T : Addr} {its : Array Value} (k : Keep (hideAll h as) h') (hl : h.IsList T its) (hn : T ∉ as) : h'.IsList T its := hl.at fun o e => hid_keep k e hn
theorem SolSt.lt {P : Params} {h : Heap} {x dS aC xT aP aW aO aM : Addr} {n : Nat} {W O : List Int} {M : List Nat} {vP : List Value} (S : SolSt P h x dS aC xT aP aW aO aM n W O M vP) : ∀ b ∈ sFp dS aP aW aO aM, b < h.objs.size := by
  obtain ⟨_, ⟨b1, b2, b3, b4, b5, b6, b7, b8, b⟩, _, ⟨_, _, _, ⟨vW, qW, eW, _⟩, ⟨vO, qO, eO, _⟩, ⟨vM, qM, eM, _⟩⟩, ⟨q, e⟩, _, _, _⟩ := S
  intro y hy
  simp only [List.mem_cons, List.not_mem_nil, or_false] at hy
  rcases hy with q | q | q | q | q <;> rw [q]
  · exact Heap.lt_size b
  · exact Heap.lt_size e
  · exact Heap.lt_size eM
  · exact Heap.lt_size eW
  · exact Heap.lt_size eO
/-- its state as a ledger, and back -/
theorem SolSt.news {P : Params} {g h : Heap} {L : Addr} {x dS aC xT aP aW aO aM : Addr} {n : Nat} {W O : List Int} {M : List Nat} {vP : List Value} (S : SolSt P h x dS aC xT aP aW aO aM n W O M vP)
    (gA : ∀ b ∈ sFp dS aP aW aO aM, g.get? b = none) (LA : L ∉ sFp dS aP aW aO aM) : ∃ k₁ k₂ k₃ k₄ k₅ kn kc cf qP vM qM vW qW vO qO,
      News g L h [(dS, dictOf (sEs P k₁ k₂ k₃ k₄ k₅ kn kc (n : Nat) cf aC xT aP) 5), (aP, listOf vP.toArray qP), (aM, listOf (List.toArray vM) qM), (aW, listOf (List.toArray vW) qW), (aO, listOf (List.toArray vO) qO)] ∧ IntsAre vM (M.map fun j => ((j : Nat) : Int)) ∧ IntsAre vW W ∧ IntsAre vO O := by
  obtain ⟨_, ⟨b1, b2, b3, b4, b5, b6, b7, b8, b⟩, _, ⟨_, _, _, ⟨vW, qW, eW, iW⟩, ⟨vO, qO, eO, iO⟩, ⟨vM, qM, eM, iM⟩⟩, ⟨q, e⟩, _, _, _⟩ := S
  have l5 := mem5.mp LA
  exact ⟨b1, b2, b3, b4, b5, b6, b7, b8, q, vM, qM, vW, qW, vO, qO, news_cons (news_cons (news_cons (news_cons (news_cons News.nil eO (Ne.symm l5.2.2.2.2) (gA _ (by simp))) eW (Ne.symm l5.2.2.2.1) (gA _ (by simp))) eM (Ne.symm l5.2.2.1) (gA _ (by simp))) e (Ne.symm l5.2.1) (gA _ (by simp))) b (Ne.symm l5.1) (gA _ (by simp)), iM, iW, iO⟩
theorem SolSt.of {P : Params} {g h : Heap} {L : Addr} {x dS aC xT aP aW aO aM : Addr} {n : Nat} {W O : List Int} {M : List Nat} {vP vM vW vO : List Value} {pre : List (Addr × Obj)} {k₁ k₂ k₃ k₄ k₅ kn kc : Tok} {cf : Int} {qP qM qW qO : Nat}
    (N : News g L h (pre ++ [(dS, dictOf (sEs P k₁ k₂ k₃ k₄ k₅ kn kc (n : Nat) cf aC xT aP) 5), (aP, listOf vP.toArray qP), (aM, listOf (List.toArray vM) qM), (aW, listOf (List.toArray vW) qW), (aO, listOf (List.toArray vO) qO)]))
    (k : Keep g h) (iM : IntsAre vM (M.map fun j => ((j : Nat) : Int))) (iW : IntsAre vW W) (iO : IntsAre vO O) (hx : g.get? x = some (instObj 156 dS)) (TG : TrailAt P g xT n aW aO aM)
    (wo : aW ≠ aO) (wm : aW ≠ aM) (om : aO ≠ aM) (pw : aP ≠ aW) (po : aP ≠ aO) (pm : aP ≠ aM) : SolSt P h x dS aC xT aP aW aO aM n W O M vP :=
  ⟨k _ _ hx, ⟨_, _, _, _, _, _, _, _, N.get (List.mem_append_right _ (.head _))⟩, TG.keep k, ⟨wo, wm, om, ⟨_, _, N.get (List.mem_append_right _ (.tail _ (.tail _ (.tail _ (.head _))))), iW⟩, ⟨_, _, N.get (List.mem_append_right _ (.tail _ (.tail _ (.tail _ (.tail _ (.head _)))))), iO⟩, ⟨_, _, N.get (List.mem_append_right _ (.tail _ (.tail _ (.head _)))), iM⟩⟩, ⟨_, N.get (List.mem_append_right _ (.tail _ (.head _)))⟩, pw, po, pm⟩
/-- the trail's lists are turned, the rest stays -/
theorem SolSt.turn {P : Params} {g h h' : Heap} {x dS aC xT aP aW aO aM : Addr} {n : Nat} {W O W' O' : List Int} {M M' : List Nat} {vP : List Value} {as : List Addr} (S : SolSt P h x dS aC xT aP aW aO aM n W O M vP) (k : Keep (hideAll h as) h')
    (hs : ∀ b ∈ as, b ∈ [aM, aW, aO]) (kg : Keep g h') (hx : g.get? x = some (instObj 156 dS)) (TG : TrailAt P g xT n aW aO aM) (st : TrSt h' aW aO aM W' O' M') : SolSt P h' x dS aC xT aP aW aO aM n W' O' M' vP := by
  have hd := S.ds
  have n1 : dS ∉ as := fun q => by
    have := hs _ q
    simp only [List.mem_cons, List.not_mem_nil, or_false] at this
    rcases this with q | q | q
    · exact hd.2.1 q
    · exact hd.2.2.1 q
    · exact hd.2.2.2 q
  have n2 : aP ∉ as := fun q => by
    have := hs _ q
    simp only [List.mem_cons, List.not_mem_nil, or_false] at this
    rcases this with q | q | q
    · exact S.pm q
    · exact S.pw q
    · exact S.po q
  obtain ⟨b1, b2, b3, b4, b5, b6, b7, b8, b⟩ := S.dict
  obtain ⟨q, e⟩ := S.pf
  exact ⟨kg _ _ hx, ⟨b1, b2, b3, b4, b5, b6, b7, b8, hid_keep k b n1⟩, TG.keep kg, st, ⟨q, hid_keep k e n2⟩, S.pw, S.po, S.pm⟩

theorem backtrack_ok {Q : Value → Shared → Prop}
    (G : Gd (hd.heap_39 w.params) p loose mg mb (hideAll s.heap (sFp dS aP aW aO aM))) (R : Room A 3) (S : SolSt w.params s.heap x dS aC xT aP aW aO aM n W O M vP)
    (tr : Tr n W O) (hn : n ≤ 3) (hm : M.length ≤ 1000) (hin : ∀ j ∈ M, j < O.length) (hp : vP.length ≤ 1000)
    (ret : ∀ T its c s', Same s s' → Keep (hideAll s.heap (sFp dS aP aW aO aM)) s'.heap → @LE.le Nat _ s.heap.objs.size T → s'.heap.IsList T (List.toArray its) → IntsAre its c → c.length ≤ 1000 →
      M.getLast? = none → SolSt w.params s'.heap x dS aC xT aP aW aO aM n W O M (vP ++ [.ref T]) → Q (.bool false) s')
    (ret' : ∀ T its c s', Same s s' → Keep (hideAll s.heap (sFp dS aP aW aO aM)) s'.heap → @LE.le Nat _ s.heap.objs.size T → s'.heap.IsList T (List.toArray its) → IntsAre its c → c.length ≤ 1000 →
      ∀ j, M.getLast? = some j → SolSt w.params s'.heap x dS aC xT aP aW aO aM n (setW (clearW W (O.drop j)) (-(O.getD j 0))) (O.take j ++ [-(O.getD j 0)]) M.dropLast (vP ++ [.ref T]) → Q (.bool true) s') :
    wpAny (model prog w) A (call (.ref 146) [.ref x]) Q E s := by
  have hol := tr.length_le
  have Slt := S.lt
  obtain ⟨hx, TG⟩ := S.hid
  have gA : ∀ b ∈ sFp dS aP aW aO aM, (hideAll s.heap (sFp dS aP aW aO aM)).get? b = none := fun b hb => hideAll_none _ hb
  refine enter (g := hideAll s.heap (sFp dS aP aW aO aM)) (binds := [("self", .ref x)]) G (keep_hide _) (Nat.le_of_eq (hideAll_size _ _)) (by k_is) (by k_is) R.room (BindsTo.of_eq rfl) (locs rfl) ?_ rfl rfl rfl (by decide)
  intro L h tk F hk hL
  have LA : L ∉ sFp dS aP aW aO aM := fun q => Nat.lt_irrefl _ (Nat.lt_of_lt_of_le (Slt _ q) hL)
  replace S := S.keep hk
  have hsz : s.heap.objs.size ≤ h.objs.size := Nat.le_trans hL (Nat.le_of_lt F.ns.lt)
  clear hk
  have hgn : ∀ T, @LE.le Nat _ s.heap.objs.size T → (hideAll s.heap (sFp dS aP aW aO aM)).get? T = none := fun T hT => none_of_ge (by rw [hideAll_size]; exact hT)
  generalize hideAll s.heap (sFp dS aP aW aO aM) = g at *
  have TT := TG
  obtain ⟨dx, t₁, t₂, t₃, t₄, t₅, hxT, hdxT⟩ := TT
  obtain ⟨k₁, k₂, k₃, k₄, k₅, kn, kc, cf, eD⟩ := S.dict
  have N : News g L h [(dS, dictOf (sEs w.params k₁ k₂ k₃ k₄ k₅ kn kc (n : Nat) cf aC xT aP) 5)] := news_cons News.nil eD (fun q => LA (q ▸ List.mem_cons_self ..)) (gA _ (List.mem_cons_self ..))
  (repeat (first | with_reducible refine wpAny_execs_cons ?_ | ((with_reducible show wpAny _ _ (eval (Expr.Name _ _) _) _ _ _); (first | (refine nameX_L (v := _) F (by (repeat (first | with_reducible assumption | with_reducible exact up_eq _ _ _ | refine (up_ne (by decide)).trans ?_ | exact rfl))) ?_ rfl rfl (by decide)) | (refine nameX_C (c := _) (o := _) (v := _) N rfl (by k_mem) (by assumption) ?_ rfl rfl (by decide)) | (refine r_glob G F (by k_is) ?_ rfl rfl (by decide)) | (refine r_boot G F (by boot_fast) (by k_is) (by decide) ?_ rfl rfl (by decide)))) | (with_reducible refine wpAny_Expr ?_ (by with_unfolding_all rfl) (by with_unfolding_all rfl)) | (with_reducible refine MethodCall_ (pl := _) ?_ (by with_unfolding_all rfl)) | ((with_reducible show wpAny _ _ (getMethod (Value.ref _) _ _) _ _ _); refine r_meth (f := _) G F (F.keep _ _ (by with_reducible assumption)) (by first | exact F.keep _ _ (by with_reducible assumption) | exact N.get (by k_mem)) (by k_is) (by k_is) (by k_is) rfl ?_) | ((with_reducible show wpAny _ _ (callWith _ (Value.ref _) (_ :: _) (backTo _ (starEach [] _)) []) _ _ _); refine r_callm0 G F.keep (by k_is) ?_)))
  refine learn_ok (G.keeps (keep_hid F.keep gA)) (R.deeper _) S (by (first | lia | omega)) hm hin hp (fun T its c s₁ sm kp S₁ hT hTl hTi hTc => ?_)
  have hT' : @LE.le Nat _ s.heap.objs.size T := Nat.le_trans hsz hT
  have hTn : T ∉ sFp dS aP aW aO aM := fun q => Nat.lt_irrefl _ (Nat.lt_of_lt_of_le (Slt _ q) hT')
  replace F := fr_hid F kp gA LA
  clear N eD k₁ k₂ k₃ k₄ k₅ kn kc cf
  obtain ⟨k₁, k₂, k₃, k₄, k₅, kn, kc, cf, eD⟩ := S₁.dict
  have N : News g L s₁.heap [(dS, dictOf (sEs w.params k₁ k₂ k₃ k₄ k₅ kn kc (n : Nat) cf aC xT aP) 5)] := news_cons News.nil eD (fun q => LA (q ▸ List.mem_cons_self ..)) (gA _ (List.mem_cons_self ..))
  obtain ⟨vM, qM, eM, iM⟩ := S₁.st.m
  show wpAny _ _ _ _ _ _
  (repeat (first | with_reducible refine wpAny_execs_cons ?_ | with_reducible refine wpAny_If ?_ | (with_reducible refine wpAny_isTrue_Compare1 ?_ (by with_unfolding_all rfl)) | ((with_reducible show wpAny _ _ (eval (Expr.Name _ _) _) _ _ _); (first | (refine nameX_L (v := _) F (by (repeat (first | with_reducible assumption | with_reducible exact up_eq _ _ _ | refine (up_ne (by decide)).trans ?_ | exact rfl))) ?_ rfl rfl (by decide)) | (refine nameX_C (c := _) (o := _) (v := _) N rfl (by k_mem) (by assumption) ?_ rfl rfl (by decide)) | (refine r_glob G F (by k_is) ?_ rfl rfl (by decide)) | (refine r_boot G F (by boot_fast) (by k_is) (by decide) ?_ rfl rfl (by decide)))) | (with_reducible refine args_cons ?_ rfl) | (with_reducible refine args_nil ?_) | ((with_reducible show wpAny _ _ (callWith _ (Value.builtin _) [] _ []) _ _ _); refine callWith_builtin1 ?_ rfl rfl) | (with_reducible refine Call_ ?_ rfl) | (with_reducible refine Attribute_any_ ?_ (by with_unfolding_all rfl)) | ((with_reducible show wpAny _ _ (getAttr (Value.ref _) _ _) _ _ _); refine z_attr (attr := _) (v := _) G F (F.keep _ _ (by with_reducible assumption)) (by first | exact F.keep _ _ (by with_reducible assumption) | exact N.get (by k_mem)) (by k_is) (by k_is) (by k_is) (by k_is) (by k_get) rfl (fun tk => ?_))))
  refine z_len (n := M.length) (IsL.isList eM) (by rw [iM.length, List.length_map]) (by (first | lia | omega)) (fun tl tk => ?_)
  (repeat (first | with_reducible refine z_int ?_ | with_reducible refine eq_int ?_ | with_reducible refine wpAny_truthy_bool ?_))
  refine split_bool (fun hc => ?_) (fun hc => ?_)
  · (repeat (first | with_reducible refine wpAny_execs_cons ?_ | with_reducible refine wpAny_Return_some ?_ | with_reducible refine Constant_bool ?_))
    have hM0 : M = [] := by
      have : M.length = 0 := by simpa using hc
      exact List.length_eq_zero_iff.mp this
    exact ret T its c _ ((Same.of _ _ _).trans (sm.set _ _)) F.keep hT' hTl hTi hTc (by rw [hM0]; rfl) S₁
  · have hM0 : M ≠ [] := by
      intro q; rw [q] at hc; simp at hc
    obtain ⟨j, hj⟩ : ∃ j, M.getLast? = some j := by
      cases hq : M.getLast? with
      | none => exact absurd (List.getLast?_eq_none_iff.mp hq) hM0
      | some j => exact ⟨j, rfl⟩
    have hjO := hin j (List.mem_of_getLast? hj)
    have g3 : ∀ b ∈ [aW, aO, aM], g.get? b = none := fun b hb => gA b (by simp only [List.mem_cons, List.not_mem_nil, or_false] at hb ⊢; rcases hb with q | q | q <;> simp [q])
    have g2 : ∀ b ∈ [aW, aO], g.get? b = none := fun b hb => gA b (by simp only [List.mem_cons, List.not_mem_nil, or_false] at hb ⊢; rcases hb with q | q <;> simp [q])
    have L3 : ∀ y, y ∉ sFp dS aP aW aO aM → y ∉ [aW, aO, aM] := fun y hy q => hy (by simp only [List.mem_cons, List.not_mem_nil, or_false] at q ⊢; rcases q with q | q | q <;> simp [q])
    have L2 : ∀ y, y ∉ sFp dS aP aW aO aM → y ∉ [aW, aO] := fun y hy q => hy (by simp only [List.mem_cons, List.not_mem_nil, or_false] at q ⊢; rcases q with q | q <;> simp [q])
    have T1 : Tr n (clearW W (O.drop j)) (O.take j) := Tr.clear (by rw [List.take_append_drop]; exact tr)
    have hin' : O.getD j 0 ∈ O := getD_mem hjO
    have hvj : Valid n (-(O.getD j 0)) := (tr.val _ hin').neg
    (repeat (first | with_reducible refine wpAny_execs_cons ?_ | with_reducible refine wpAny_execs_nil ?_ | ((with_reducible show wpAny _ _ (eval (Expr.Name _ _) _) _ _ _); (first | (refine nameX_L (v := _) F (by (repeat (first | with_reducible assumption | with_reducible exact up_eq _ _ _ | refine (up_ne (by decide)).trans ?_ | exact rfl))) ?_ rfl rfl (by decide)) | (refine nameX_C (c := _) (o := _) (v := _) N rfl (by k_mem) (by assumption) ?_ rfl rfl (by decide)) | (refine r_glob G F (by k_is) ?_ rfl rfl (by decide)) | (refine r_boot G F (by boot_fast) (by k_is) (by decide) ?_ rfl rfl (by decide)))) | (with_reducible refine MethodCall_ (pl := _) ?_ (by with_unfolding_all rfl)) | (with_reducible refine Attribute_any_ ?_ (by with_unfolding_all rfl)) | ((with_reducible show wpAny _ _ (getAttr (Value.ref _) _ _) _ _ _); refine z_attr (attr := _) (v := _) G F (F.keep _ _ (by with_reducible assumption)) (by first | exact F.keep _ _ (by with_reducible assumption) | exact N.get (by k_mem)) (by k_is) (by k_is) (by k_is) (by k_is) (by k_get) rfl (fun tk => ?_)) | ((with_reducible show wpAny _ _ (getMethod (Value.ref _) _ _) _ _ _); refine r_meth (f := _) G F (F.keep _ _ (by with_reducible assumption)) (by first | exact F.keep _ _ (by with_reducible assumption) | exact N.get (by k_mem)) (by k_is) (by k_is) (by k_is) rfl ?_) | ((with_reducible show wpAny _ _ (callWith _ (Value.ref _) (_ :: _) (backTo _ (starEach [] _)) []) _ _ _); refine r_callm0 G F.keep (by k_is) ?_) | (with_reducible refine wpAny_Assign_Name ?_ (by with_unfolding_all rfl))))
    refine undo_ok (G.keeps (keep_hid F.keep g3)) ((R.less (by decide)).deeper _) S₁.tr S₁.st tr hn hj hjO hm (fun tc s₂ sm₂ kp₂ st₂ => ?_)
    replace F := fr_hid F kp₂ g3 (L3 _ LA)
    have S₂ := S₁.turn kp₂ (fun b hb => by simp only [List.mem_cons, List.not_mem_nil, or_false] at hb ⊢; rcases hb with q | q | q <;> simp [q]) F.keep hx TG st₂
    replace hTl := list_hid kp₂ hTl (L3 _ hTn)
    obtain ⟨oT, hoT, hTc', qT, hTd⟩ := hTl
    clear N eD k₁ k₂ k₃ k₄ k₅ kn kc cf vM qM eM iM
    obtain ⟨k₁, k₂, k₃, k₄, k₅, kn, kc, cf, qP, vM, qM, vW, qW, vO, qO, N, iM, iW, iO⟩ := S₂.news gA LA
    have hTL : T ≠ L := fun q => by
      obtain ⟨oL, _, _, hoL, hdL, _⟩ := F.ns
      rw [← q, hoT] at hoL; cases hoL
      rw [hTd] at hdL; cases hdL
    have hTg : g.get? T = none := hgn T hT'
    replace N := news_cons N hoT hTL hTg
    (repeat (first | with_reducible refine wpAny_execs_cons ?_ | with_reducible refine UnaryOp_ ?_ | with_reducible refine z_neg ?_ | ((with_reducible show wpAny _ _ (eval (Expr.Name _ _) _) _ _ _); (first | (refine nameX_L (v := _) F (by (repeat (first | with_reducible assumption | with_reducible exact up_eq _ _ _ | refine (up_ne (by decide)).trans ?_ | exact rfl))) ?_ rfl rfl (by decide)) | (refine nameX_C (c := _) (o := _) (v := _) N rfl (by k_mem) (by assumption) ?_ rfl rfl (by decide)) | (refine r_glob G F (by k_is) ?_ rfl rfl (by decide)) | (refine r_boot G F (by boot_fast) (by k_is) (by decide) ?_ rfl rfl (by decide)))) | (with_reducible refine args_cons ?_ rfl) | (with_reducible refine args_nil ?_) | ((with_reducible show Keep _ _ ∧ _); refine And.intro F.keep ?_) | (with_reducible refine wpAny_Expr ?_ (by with_unfolding_all rfl) (by with_unfolding_all rfl)) | (with_reducible refine MethodCall_ (pl := _) ?_ (by with_unfolding_all rfl)) | (with_reducible refine Attribute_any_ ?_ (by with_unfolding_all rfl)) | ((with_reducible show wpAny _ _ (getAttr (Value.ref _) _ _) _ _ _); refine z_attr (attr := _) (v := _) G F (F.keep _ _ (by with_reducible assumption)) (by first | exact F.keep _ _ (by with_reducible assumption) | exact N.get (by k_mem)) (by k_is) (by k_is) (by k_is) (by k_is) (by k_get) rfl (fun tk => ?_)) | ((with_reducible show wpAny _ _ (getMethod (Value.ref _) _ _) _ _ _); refine r_meth (f := _) G F (F.keep _ _ (by with_reducible assumption)) (by first | exact F.keep _ _ (by with_reducible assumption) | exact N.get (by k_mem)) (by k_is) (by k_is) (by k_is) rfl ?_) | ((with_reducible show wpAny _ _ (callWith _ (Value.ref _) (_ :: _) (backTo _ (starEach (_ :: _) _)) []) _ _ _); refine r_callm G (by k_is) ?_ rfl rfl) | ((with_reducible show wpAny _ _ (storeName _ _ _) _ _ _); (refine z_store F N ?_ rfl rfl; clear F N; intro h tk F N hg))))
    refine assign_ok (G.keeps (keep_hid F.keep g2)) ((R.less (by decide)).deeper _) (TG.keep F.keep) st₂.wo ⟨_, _, N.get (by k_mem), iW⟩ ⟨_, _, N.get (by k_mem), iO⟩ hvj T1.len hn (by have := T1.length_le; (first | lia | omega)) (fun s₃ sm₃ kp₃ hW₃ hO₃ => ?_)
    obtain ⟨vW₃, qW₃, eW₃, iW₃⟩ := hW₃
    obtain ⟨vO₃, qO₃, eO₃, iO₃⟩ := hO₃
    replace F := fr_hid F kp₃ g2 (L2 _ LA)
    have hd := S₂.ds
    replace N := news_wo [(T, oT), (dS, dictOf (sEs w.params k₁ k₂ k₃ k₄ k₅ kn kc (n : Nat) cf aC xT aP) 5), (aP, listOf (vP ++ [Value.ref T]).toArray qP), (aM, listOf (List.toArray vM) qM)] N kp₃ (fun p hp => by
      have hT5 := mem5.mp hTn
      simp only [List.mem_cons, List.not_mem_nil, or_false] at hp
      rcases hp with q | q | q | q <;> rw [q]
      · exact ⟨hT5.2.2.2.1, hT5.2.2.2.2⟩
      · exact ⟨hd.2.2.1, hd.2.2.2⟩
      · exact ⟨S₂.pw, S₂.po⟩
      · exact ⟨Ne.symm st₂.wm, Ne.symm st₂.om⟩) eW₃ eO₃
    show wpAny _ _ _ _ _ _
    (repeat (first | with_reducible refine wpAny_execs_cons ?_ | with_reducible refine wpAny_Return_some ?_ | with_reducible refine Constant_bool ?_))
    refine ret' T its c _ ((((Same.of _ _ _).trans sm).trans (Same.trans (Same.of _ _ _) sm₂)).trans ((Same.of _ _ _).trans (sm₃.set _ _))) F.keep hT' ⟨oT, N.get (List.mem_cons_self ..), hTc', qT, hTd⟩ hTi hTc j hj (SolSt.of (pre := [(T, oT)]) N F.keep iM iW₃ iO₃ hx TG st₂.wo st₂.wm st₂.om S₂.pw S₂.po S₂.pm)
end
end Mine
namespace Mine
/-- a solver's state, as a ledger -/
def SolN (P : Params) (g : Heap) (L : Addr) (h : Heap) (dS aC xT aP aW aO aM : Addr) (n : Nat) (st : SSt) (vP : List Value) : Prop := ∃ k₁ k₂ k₃ k₄ k₅ kn kc cf qP vM qM vW qW vO qO,
  News g L h [(dS, dictOf (sEs P k₁ k₂ k₃ k₄ k₅ kn kc (n : Nat) cf aC xT aP) 5), (aP, listOf vP.toArray qP), (aM, listOf (List.toArray vM) qM), (aW, listOf (List.toArray vW) qW), (aO, listOf (List.toArray vO) qO)] ∧ IntsAre vM (st.M.map fun j => ((j : Nat) : Int)) ∧ IntsAre vW st.W ∧ IntsAre vO st.O
theorem SolN.move {P : Params} {g h h' : Heap} {L I dS aC xT aP aW aO aM : Addr} {n : Nat} {st : SSt} {vP : List Value} (x : SolN P g L h dS aC xT aP aW aO aM n st vP) (hI : I ∉ sFp dS aP aW aO aM)
    (k : ∀ b o, b ≠ I → b ≠ L → h.get? b = some o → h'.get? b = some o) : SolN P g L h' dS aC xT aP aW aO aM n st vP := by
  obtain ⟨k₁, k₂, k₃, k₄, k₅, kn, kc, cf, qP, vM, qM, vW, qW, vO, qO, N, r⟩ := x
  refine ⟨k₁, k₂, k₃, k₄, k₅, kn, kc, cf, qP, vM, qM, vW, qW, vO, qO, news_move N (fun p hp => ?_) k, r⟩
  have h5 := mem5.mp hI
  simp only [List.mem_cons, List.not_mem_nil, or_false] at hp
  rcases hp with q | q | q | q | q <;> rw [q]
  · exact Ne.symm h5.1
  · exact Ne.symm h5.2.1
  · exact Ne.symm h5.2.2.1
  · exact Ne.symm h5.2.2.2.1
  · exact Ne.symm h5.2.2.2.2
/-- the proof's steps lie apart -/
def PrOk (bad : List Addr) (h : Heap) (vP : List Value) : Prop := ∀ v ∈ vP, ∃ T its c, v = .ref T ∧ T ∉ bad ∧ h.IsList T (List.toArray its) ∧ IntsAre its c ∧ c.length ≤ 1000
theorem PrOk.move {bad : List Addr} {h h' : Heap} {vP : List Value} (x : PrOk bad h vP) (k : ∀ b o, b ∉ bad → h.get? b = some o → h'.get? b = some o) : PrOk bad h' vP := fun v hv =>
  let ⟨T, its, c, e, hb, hl, r⟩ := x v hv; ⟨T, its, c, e, hb, hl.at fun o e => k T o hb e, r⟩
theorem PrOk.snoc {bad : List Addr} {h : Heap} {vP : List Value} {T : Addr} {its : List Value} {c : List Int} (x : PrOk bad h vP) (hb : T ∉ bad) (hl : h.IsList T (List.toArray its)) (hi : IntsAre its c) (hc : c.length ≤ 1000) : PrOk bad h (vP ++ [.ref T]) := fun v hv => by
  rcases List.mem_append.mp hv with q | q
  · exact x v q
  · exact ⟨T, its, c, List.mem_singleton.mp q, hb, hl, hi, hc⟩
theorem fresh_bad {g h : Heap} {L T I dS aP aW aO aM : Addr} {m : Str → Option Value} {o₁ o₂ o₃ o₄ o₅ o₆ : Obj} (F : Fr g L h m) (N : News g L h [(I, o₁), (dS, o₂), (aP, o₃), (aM, o₄), (aW, o₅), (aO, o₆)]) (hT : @LE.le Nat _ h.objs.size T) :
    T ∉ I :: L :: sFp dS aP aW aO aM := by
  have key : ∀ {b : Addr}, b < h.objs.size → T ≠ b := fun hb => Nat.ne_of_gt (Nat.lt_of_lt_of_le hb hT)
  simp only [List.mem_cons, List.not_mem_nil, or_false, not_or]
  exact ⟨key (Heap.lt_size (N.get (.head _))), key F.ns.lt, key (Heap.lt_size (N.get (.tail _ (.head _)))), key (Heap.lt_size (N.get (.tail _ (.tail _ (.head _))))), key (Heap.lt_size (N.get (.tail _ (.tail _ (.tail _ (.head _)))))),
    key (Heap.lt_size (N.get (.tail _ (.tail _ (.tail _ (.tail _ (.head _))))))), key (Heap.lt_size (N.get (.tail _ (.tail _ (.tail _ (.tail _ (.tail _ (.head _))))))))⟩
theorem prop_inv {css : List (List Int)} {n : Nat} {st : SSt} (hv : ValidCs n css) (I : SInv css n st) : Tr n (propF (n + 1) css st.W st.O).1 (propF (n + 1) css st.W st.O).2.1 ∧ ∀ j ∈ st.M, j < (propF (n + 1) css st.W st.O).2.1.length := by
  have R := prop_ok (k := n + 1) (P := fun m => Models m css ∧ ∀ j ∈ st.M, Sat m (st.O.getD j 0)) hv (fun m hm => hm.1) I.tr I.bears
  obtain ⟨X, e⟩ := R.ext
  refine ⟨R.tr, fun j hj => ?_⟩
  rw [e, List.length_append]
  have := I.inb j hj
  (first | lia | omega)
theorem solve_done {css : List (List Int)} {n k : Nat} {st : SSt} {b : Bool} (h : turnF css n st = .done b) : solveF css n (k + 1) st = some b := by unfold solveF; rw [h]
theorem solve_go {css : List (List Int)} {n k : Nat} {st st' : SSt} (h : turnF css n st = .go st') : solveF css n (k + 1) st = solveF css n k st' := by rw [solveF, h]
theorem turn_f0 {css : List (List Int)} {n : Nat} {st : SSt} {W O : List Int} (h : (W, O, false) = propF (n + 1) css st.W st.O) (hm : st.M.getLast? = none) : turnF css n st = .done false := by
  unfold turnF; rw [← h]; simp only [hm]
theorem turn_f1 {css : List (List Int)} {n j : Nat} {st : SSt} {W O : List Int} (h : (W, O, false) = propF (n + 1) css st.W st.O) (hm : st.M.getLast? = some j) :
    turnF css n st = .go ⟨setW (clearW W (O.drop j)) (-(O.getD j 0)), O.take j ++ [-(O.getD j 0)], st.M.dropLast⟩ := by
  unfold turnF; rw [← h]; simp only [hm]
theorem turn_t0 {css : List (List Int)} {n : Nat} {st : SSt} {W O : List Int} (h : (W, O, true) = propF (n + 1) css st.W st.O) (hm : firstFree W n = 0) : turnF css n st = .done true := by
  unfold turnF; rw [← h]; simp only [hm]
theorem turn_t1 {css : List (List Int)} {n v : Nat} {st : SSt} {W O : List Int} (h : (W, O, true) = propF (n + 1) css st.W st.O) (hm : firstFree W n = v + 1) :
    turnF css n st = .go ⟨setW W ((v + 1 : Nat) : Int), O ++ [((v + 1 : Nat) : Int)], st.M ++ [O.length]⟩ := by
  unfold turnF; rw [← h]; simp only [hm]
theorem turn_inv {css : List (List Int)} {n : Nat} {st st' : SSt} (hv : ValidCs n css) (I : SInv css n st) (h : turnF css n st = .go st') : SInv css n st' := by
  have := turn_ok hv I
  rw [h] at this
  exact this.1

section
variable {prog : Program} {w : World} {A : Around} {E : Value → Shared → Prop} {s : Shared} {p : Program} {loose : List Str} {mg mb : Str → Option Value}
variable {x dS aC xT aP aW aO aM : Addr} {n : Nat} {css : List (List Int)} {st₀ : SSt} {f : Nat} {b : Bool} {t : Tok}

theorem solve_walk {Q : Value → Shared → Prop}
    (G : Gd (hd.heap_39 w.params) p loose mg mb (hideAll s.heap (sFp dS aP aW aO aM))) (R : Room A 4) (S : SolSt w.params s.heap x dS aC xT aP aW aO aM n st₀.W st₀.O st₀.M [])
    (hcs : IsLL (hideAll s.heap (sFp dS aP aW aO aM)) aC css) (Sm : Small n css) (I₀ : SInv css n st₀) (hM₀ : st₀.M = []) (hf : f ≤ 500) (hb : solveF css n f st₀ = some b)
    (ret : ∀ t s' (st : SSt) (vP : List Value), Same s s' → Keep (hideAll s.heap (sFp dS aP aW aO aM)) s'.heap → SolSt w.params s'.heap x dS aC xT aP aW aO aM n st.W st.O st.M vP → PrOk [] s'.heap vP → vP.length ≤ 1000 →
      st.W.length ≤ 1000 → st.O.length ≤ 1000 → st.M.length ≤ 1000 → Q (.str (if b = true then "sat" else "unsat") t) s') :
    wpAny (model prog w) A (call (.ref 153) [.ref x, .int (f : Nat) t]) Q E s := by
  have hn3 := Sm.n3
  have Slt := S.lt
  obtain ⟨hx, TG⟩ := S.hid
  have gA : ∀ b ∈ sFp dS aP aW aO aM, (hideAll s.heap (sFp dS aP aW aO aM)).get? b = none := fun b hb => hideAll_none _ hb
  have hwo := S.st.wo
  have hwm := S.st.wm
  have hom := S.st.om
  have pw := S.pw
  have po := S.po
  have pm := S.pm
  have hds := S.ds
  refine enter (g := hideAll s.heap (sFp dS aP aW aO aM)) (binds := [("self", .ref x), ("fuel", .int (f : Nat) t)]) G (keep_hide _) (Nat.le_of_eq (hideAll_size _ _)) (by k_is) (by k_is) R.room (BindsTo.of_eq rfl) (locs rfl) ?_ rfl rfl rfl (by decide)
  intro L h tk F hk hL
  have LA : L ∉ sFp dS aP aW aO aM := fun q => Nat.lt_irrefl _ (Nat.lt_of_lt_of_le (Slt _ q) hL)
  replace S := S.keep hk
  clear hk
  generalize hideAll s.heap (sFp dS aP aW aO aM) = g at *
  have TT := TG
  obtain ⟨dx, t₁, t₂, t₃, t₄, t₅, hxT, hdxT⟩ := TT
  have g3 : ∀ b ∈ [aW, aO, aM], g.get? b = none := fun b hb => gA b (by simp only [List.mem_cons, List.not_mem_nil, or_false] at hb ⊢; rcases hb with q | q | q <;> simp [q])
  have g2 : ∀ b ∈ [aW, aO], g.get? b = none := fun b hb => gA b (by simp only [List.mem_cons, List.not_mem_nil, or_false] at hb ⊢; rcases hb with q | q <;> simp [q])
  have L3 : ∀ y, y ∉ sFp dS aP aW aO aM → y ∉ [aW, aO, aM] := fun y hy q => hy (by simp only [List.mem_cons, List.not_mem_nil, or_false] at q ⊢; rcases q with q | q | q <;> simp [q])
  have L2 : ∀ y, y ∉ sFp dS aP aW aO aM → y ∉ [aW, aO] := fun y hy q => hy (by simp only [List.mem_cons, List.not_mem_nil, or_false] at q ⊢; rcases q with q | q <;> simp [q])
  obtain ⟨k₁, k₂, k₃, k₄, k₅, kn, kc, cf, qP, vM, qM, vW, qW, vO, qO, N, iM, iW, iO⟩ := S.news gA LA
  (repeat (first | with_reducible refine wpAny_execs_cons ?_))
  refine wpAny_For ?_ (fun _ => rfl)
  (repeat (first | ((with_reducible show wpAny _ _ (eval (Expr.Name _ _) _) _ _ _); (first | (refine nameX_L (v := _) F (by (repeat (first | with_reducible assumption | with_reducible exact up_eq _ _ _ | refine (up_ne (by decide)).trans ?_ | exact rfl))) ?_ rfl rfl (by decide)) | (refine nameX_C (c := _) (o := _) (v := _) N rfl (by k_mem) (by assumption) ?_ rfl rfl (by decide)) | (refine r_glob G F (by k_is) ?_ rfl rfl (by decide)) | (refine r_boot G F (by boot_fast) (by k_is) (by decide) ?_ rfl rfl (by decide)))) | (with_reducible refine args_cons ?_ rfl) | (with_reducible refine args_nil ?_) | ((with_reducible show wpAny _ _ (callWith _ (Value.type _) [] _ []) _ _ _); refine Pv.callWith_type1 ?_ rfl rfl) | (with_reducible refine Call_ ?_ rfl)))
  (refine z_range1 F N ?_; clear F N; intro r h tk t0 u0 v0 F N hr hkr)
  have hIA : h.objs.size ∉ sFp dS aP aW aO aM := by
    have ne := news_ne N
    refine mem5.mpr ⟨Ne.symm (ne _ (.head _)), Ne.symm (ne _ (.tail _ (.head _))), Ne.symm (ne _ (.tail _ (.tail _ (.head _)))), Ne.symm (ne _ (.tail _ (.tail _ (.tail _ (.head _))))), Ne.symm (ne _ (.tail _ (.tail _ (.tail _ (.tail _ (.head _))))))⟩
  have hIL := ne_frame F
  have hIg := fresh_of F.keep
  refine for_range (n := f) (fun i m s' => Same s s' ∧ m "self" = some (.ref x) ∧ ∃ st vP, SolN w.params g L s'.heap dS aC xT aP aW aO aM n st vP ∧ SInv css n st ∧ PrOk (h.objs.size :: L :: sFp dS aP aW aO aM) s'.heap vP ∧
      vP.length ≤ i ∧ st.M.length ≤ i ∧ solveF css n (f - i) st = some b)
    R.handled hr (sm0 (Nat.le_trans hf (by decide))) (sz0 _) rfl rfl F ?_ ?_ ?_ ?_
  · intro h' tk' kp
    exact ⟨Same.of _ _ _, rfl, st₀, [], ⟨k₁, k₂, k₃, k₄, k₅, kn, kc, cf, qP, vM, qM, vW, qW, vO, qO, N.grown kp, iM, iW, iO⟩, I₀, (fun v hv => nomatch hv), Nat.le_refl _, (by rw [hM₀]; exact Nat.le_refl _), hb⟩
  · rintro i m s₁ h' tk' ⟨a, b, st, vP, c, d, e, r⟩ kp
    exact ⟨a.set _ _, b, st, vP, c.move hIA kp, d, e.move (fun b o hb e => kp b o (fun q => hb (q ▸ .head _)) (fun q => hb (q ▸ .tail _ (.head _))) e), r⟩
  · rintro i t' m s₁ E' hi ⟨hs₁, hm, st, vP, ⟨k₁, k₂, k₃, k₄, k₅, kn, kc, cf, qP, vM, qM, vW, qW, vO, qO, N₁, iM, iW, iO⟩, I₁, pr, hvl, hml, hsf⟩ F₁ ⟨oI, hoI⟩
    replace F₁ : Fr g L s₁.heap (up m "turn" (.int (0 + (i : Nat)) t')) := F₁
    clear F N
    have F := F₁
    have N := news_cons N₁ hoI hIL hIg
    clear F₁ N₁ hr hkr
    obtain ⟨I, hI⟩ : ∃ I, I = h.objs.size := ⟨_, rfl⟩
    rw [← hI] at N hIL hIg hIA hoI pr ⊢
    obtain ⟨k, hk⟩ : ∃ k, f - i = k + 1 := ⟨f - i - 1, by (first | lia | omega)⟩
    have hk' : f - (i + 1) = k := by (first | lia | omega)
    rw [hk] at hsf
    rw [hk']
    refine hideQ (fun Q₁ hQ₁ => ?_)
    have PI := prop_inv Sm.val I₁
    (repeat (first | with_reducible refine wpAny_execs_cons ?_ | with_reducible refine wpAny_If ?_ | with_reducible refine isTrue_not ?_ | ((with_reducible show wpAny _ _ (eval (Expr.Name _ _) _) _ _ _); (first | (refine nameX_L (v := _) F (by (repeat (first | with_reducible assumption | with_reducible exact up_eq _ _ _ | refine (up_ne (by decide)).trans ?_ | exact rfl))) ?_ rfl rfl (by decide)) | (refine nameX_C (c := _) (o := _) (v := _) N rfl (by k_mem) (by assumption) ?_ rfl rfl (by decide)) | (refine r_glob G F (by k_is) ?_ rfl rfl (by decide)) | (refine r_boot G F (by boot_fast) (by k_is) (by decide) ?_ rfl rfl (by decide)))) | (with_reducible refine args_cons ?_ rfl) | (with_reducible refine args_nil ?_) | ((with_reducible show Keep _ _ ∧ _); refine And.intro F.keep ?_) | ((with_reducible show wpAny _ _ (callWith _ (Value.ref _) [] _ []) _ _ _); refine r_callf G (by k_is) ?_ rfl rfl) | (with_reducible refine Call_ ?_ rfl) | (with_reducible refine Attribute_any_ ?_ (by with_unfolding_all rfl)) | ((with_reducible show wpAny _ _ (getAttr (Value.ref _) _ _) _ _ _); refine z_attr (attr := _) (v := _) G F (F.keep _ _ (by with_reducible assumption)) (by first | exact F.keep _ _ (by with_reducible assumption) | exact N.get (by k_mem)) (by k_is) (by k_is) (by k_is) (by k_is) (by k_get) rfl (fun tk => ?_)) | (with_reducible refine isTrue_plain ?_ (by with_unfolding_all rfl))))
    refine propagate_ok (G.keeps (keep_hid F.keep g2)) (R.deeper _) (TG.keep F.keep) hwo ⟨_, _, N.get (by k_mem), iW⟩ ⟨_, _, N.get (by k_mem), iO⟩ (hcs.keep (keep_hid F.keep g2)) Sm I₁.tr (fun s₂ sm₂ kp₂ hW₂ hO₂ => ?_)
    obtain ⟨r, hr⟩ : ∃ r, r = propF (n + 1) css st.W st.O := ⟨_, rfl⟩
    rw [← hr] at PI hW₂ hO₂ ⊢
    obtain ⟨W₂, O₂, b₂⟩ := r
    simp only at PI hW₂ hO₂ ⊢
    obtain ⟨tr₂, inb₂⟩ := PI
    have hol₂ := tr₂.length_le
    have hlen₂ := tr₂.len
    obtain ⟨vW₂, qW₂, eW₂, iW₂⟩ := hW₂
    obtain ⟨vO₂, qO₂, eO₂, iO₂⟩ := hO₂
    replace F := fr_hid F kp₂ g2 (L2 _ LA)
    replace N := news_wo [(I, oI), (dS, dictOf (sEs w.params k₁ k₂ k₃ k₄ k₅ kn kc (n : Nat) cf aC xT aP) 5), (aP, listOf vP.toArray qP), (aM, listOf (List.toArray vM) qM)] N kp₂ (fun p hp => by
      have hI5 := mem5.mp hIA
      simp only [List.mem_cons, List.not_mem_nil, or_false] at hp
      rcases hp with q | q | q | q <;> rw [q]
      · exact ⟨hI5.2.2.2.1, hI5.2.2.2.2⟩
      · exact ⟨hds.2.2.1, hds.2.2.2⟩
      · exact ⟨pw, po⟩
      · exact ⟨Ne.symm hwm, Ne.symm hom⟩) eW₂ eO₂
    replace N : News g L s₂.heap [(I, oI), (dS, dictOf (sEs w.params k₁ k₂ k₃ k₄ k₅ kn kc (n : Nat) cf aC xT aP) 5), (aP, listOf vP.toArray qP), (aM, listOf (List.toArray vM) qM), (aW, listOf vW₂.toArray qW₂), (aO, listOf vO₂.toArray qO₂)] := N
    replace pr := pr.move (fun b o hb e => hid_keep kp₂ e (L2 _ (fun q => hb (.tail _ (.tail _ q)))))
    cases b₂ with
    | false =>
      (repeat (first | with_reducible refine wpAny_truthy_bool ?_))
      simp only [Bool.not_false, if_true]
      (repeat (first | with_reducible refine wpAny_execs_cons ?_ | with_reducible refine wpAny_If ?_ | with_reducible refine isTrue_not ?_ | ((with_reducible show wpAny _ _ (eval (Expr.Name _ _) _) _ _ _); (first | (refine nameX_L (v := _) F (by (repeat (first | with_reducible assumption | with_reducible exact up_eq _ _ _ | refine (up_ne (by decide)).trans ?_ | exact rfl))) ?_ rfl rfl (by decide)) | (refine nameX_C (c := _) (o := _) (v := _) N rfl (by k_mem) (by assumption) ?_ rfl rfl (by decide)) | (refine r_glob G F (by k_is) ?_ rfl rfl (by decide)) | (refine r_boot G F (by boot_fast) (by k_is) (by decide) ?_ rfl rfl (by decide)))) | (with_reducible refine MethodCall_ (pl := _) ?_ (by with_unfolding_all rfl)) | ((with_reducible show wpAny _ _ (getMethod (Value.ref _) _ _) _ _ _); refine r_meth (f := _) G F (F.keep _ _ (by with_reducible assumption)) (by first | exact F.keep _ _ (by with_reducible assumption) | exact N.get (by k_mem)) (by k_is) (by k_is) (by k_is) rfl ?_) | ((with_reducible show wpAny _ _ (callWith _ (Value.ref _) (_ :: _) (backTo _ (starEach [] _)) []) _ _ _); refine r_callm0 G F.keep (by k_is) ?_) | (with_reducible refine isTrue_plain ?_ (by with_unfolding_all rfl))))
      refine backtrack_ok (G.keeps (keep_hid F.keep gA)) (R.deeper _) (SolSt.of (pre := [(I, oI)]) N F.keep iM iW₂ iO₂ hx TG hwo hwm hom pw po pm) tr₂ hn3 (by (first | lia | omega)) inb₂ (by (first | lia | omega)) (fun T its c s₃ sm₃ kp₃ hT hTl hTi hTc hnone S₃ => ?_) (fun T its c s₃ sm₃ kp₃ hT hTl hTi hTc j hj S₃ => ?_)
      · have hTb : T ∉ I :: L :: sFp dS aP aW aO aM := fresh_bad F N hT
        have pr₃ := (pr.move (h' := s₃.heap) (fun b o hb e => hid_keep kp₃ e (fun q => hb (.tail _ (.tail _ q))))).snoc hTb hTl hTi hTc
        replace F := fr_hid F kp₃ gA LA
        rw [solve_done (turn_f0 hr hnone)] at hsf
        cases hsf
        (repeat (first | with_reducible refine wpAny_truthy_bool ?_))
        simp only [Bool.not_false, if_true]
        (repeat (first | with_reducible refine wpAny_execs_cons ?_ | with_reducible refine wpAny_Return_some ?_ | with_reducible refine z_str ?_))
        refine hQ₁ (.ret _) _ (ret _ _ ⟨W₂, O₂, st.M⟩ (vP ++ [.ref T]) ?_ F.keep S₃ (fun v hv => ?_) (by simp; (first | lia | omega)) (by show W₂.length ≤ 1000; (first | lia | omega)) (by show O₂.length ≤ 1000; (first | lia | omega)) (by show st.M.length ≤ 1000; (first | lia | omega)))
        · exact (((hs₁.set _ _).trans sm₂).trans sm₃).set _ _
        · obtain ⟨T, its, c, e, _, r⟩ := pr₃ v hv
          exact ⟨T, its, c, e, by simp, r⟩
      · have hTb : T ∉ I :: L :: sFp dS aP aW aO aM := fresh_bad F N hT
        have pr₃ := (pr.move (h' := s₃.heap) (fun b o hb e => hid_keep kp₃ e (fun q => hb (.tail _ (.tail _ q))))).snoc hTb hTl hTi hTc
        have eI := hid_keep kp₃ (N.get (List.mem_cons_self ..)) hIA
        replace F := fr_hid F kp₃ gA LA
        have htf := turn_f1 hr hj
        rw [solve_go htf] at hsf
        (repeat (first | with_reducible refine wpAny_truthy_bool ?_))
        simp only [Bool.not_true, Bool.false_eq_true, if_false]
        (repeat (first | with_reducible refine wpAny_execs_nil ?_))
        refine hQ₁ .next _ ⟨_, F, fun o e => by rw [hoI] at e; cases e; exact eI, (((hs₁.set _ _).trans sm₂).trans sm₃).set _ _, (up_ne (by decide)).trans hm, ⟨setW (clearW W₂ (O₂.drop j)) (-(O₂.getD j 0)), O₂.take j ++ [-(O₂.getD j 0)], st.M.dropLast⟩, vP ++ [Value.ref T], S₃.news gA LA, turn_inv Sm.val I₁ htf, pr₃, by simp; (first | lia | omega), ?_, hsf⟩
        show st.M.dropLast.length ≤ i + 1
        rw [List.length_dropLast]; (first | lia | omega)
    | true =>
      (repeat (first | with_reducible refine wpAny_truthy_bool ?_))
      simp only [Bool.not_true, Bool.false_eq_true, if_false]
      refine wpAny_execs_cons ?_
      refine wpAny_Assign_Name ?_ (by with_unfolding_all rfl)
      (repeat (first | ((with_reducible show wpAny _ _ (eval (Expr.Name _ _) _) _ _ _); (first | (refine nameX_L (v := _) F (by (repeat (first | with_reducible assumption | with_reducible exact up_eq _ _ _ | refine (up_ne (by decide)).trans ?_ | exact rfl))) ?_ rfl rfl (by decide)) | (refine nameX_C (c := _) (o := _) (v := _) N rfl (by k_mem) (by assumption) ?_ rfl rfl (by decide)) | (refine r_glob G F (by k_is) ?_ rfl rfl (by decide)) | (refine r_boot G F (by boot_fast) (by k_is) (by decide) ?_ rfl rfl (by decide)))) | (with_reducible refine MethodCall_ (pl := _) ?_ (by with_unfolding_all rfl)) | (with_reducible refine Attribute_any_ ?_ (by with_unfolding_all rfl)) | ((with_reducible show wpAny _ _ (getAttr (Value.ref _) _ _) _ _ _); refine z_attr (attr := _) (v := _) G F (F.keep _ _ (by with_reducible assumption)) (by first | exact F.keep _ _ (by with_reducible assumption) | exact N.get (by k_mem)) (by k_is) (by k_is) (by k_is) (by k_is) (by k_get) rfl (fun tk => ?_)) | ((with_reducible show wpAny _ _ (getMethod (Value.ref _) _ _) _ _ _); refine r_meth (f := _) G F (F.keep _ _ (by with_reducible assumption)) (by first | exact F.keep _ _ (by with_reducible assumption) | exact N.get (by k_mem)) (by k_is) (by k_is) (by k_is) rfl ?_) | ((with_reducible show wpAny _ _ (callWith _ (Value.ref _) (_ :: _) (backTo _ (starEach [] _)) []) _ _ _); refine r_callm0 G F.keep (by k_is) ?_)))
      refine first_free_ok (G.keeps F.keep) ((R.less (by decide)).deeper _) (TG.keep F.keep) ⟨_, _, N.get (by k_mem), iW₂⟩ hlen₂ hn3 (fun tf s₃ sm₃ kp₃ => ?_)
      replace F := F.keeps kp₃
      replace N := N.grown kp₃
      replace pr := pr.move (h' := s₃.heap) (fun b o hb e => kp₃ _ _ e)
      show wpAny _ _ _ _ _ _
      refine z_storeB F N (fun h tk F' N' hst => ?_) rfl rfl
      replace F := F'
      replace N := N'
      clear F' N'
      replace pr := pr.move (h' := h) (fun b o hb e => hst _ _ (fun q => hb (q ▸ .tail _ (.head _))) e)
      (repeat (first | with_reducible refine wpAny_execs_cons ?_ | with_reducible refine wpAny_If ?_ | (with_reducible refine wpAny_isTrue_Compare1 ?_ (by with_unfolding_all rfl)) | with_reducible refine z_int ?_ | with_reducible refine eq_int ?_ | with_reducible refine wpAny_truthy_bool ?_ | ((with_reducible show wpAny _ _ (eval (Expr.Name _ _) _) _ _ _); (first | (refine nameX_L (v := _) F (by (repeat (first | with_reducible assumption | with_reducible exact up_eq _ _ _ | refine (up_ne (by decide)).trans ?_ | exact rfl))) ?_ rfl rfl (by decide)) | (refine nameX_C (c := _) (o := _) (v := _) N rfl (by k_mem) (by assumption) ?_ rfl rfl (by decide)) | (refine r_glob G F (by k_is) ?_ rfl rfl (by decide)) | (refine r_boot G F (by boot_fast) (by k_is) (by decide) ?_ rfl rfl (by decide))))))
      cases hff : firstFree W₂ n with
      | zero =>
        rw [solve_done (turn_t0 hr hff)] at hsf
        cases hsf
        rw [if_pos (by decide)]
        (repeat (first | with_reducible refine wpAny_execs_cons ?_ | with_reducible refine wpAny_Return_some ?_ | with_reducible refine z_str ?_))
        refine hQ₁ (.ret _) _ (ret _ _ ⟨W₂, O₂, st.M⟩ vP ?_ F.keep (SolSt.of (pre := [(I, oI)]) N F.keep iM iW₂ iO₂ hx TG hwo hwm hom pw po pm) (fun v hv => ?_) (by (first | lia | omega)) (by show W₂.length ≤ 1000; (first | lia | omega)) (by show O₂.length ≤ 1000; (first | lia | omega)) (by show st.M.length ≤ 1000; (first | lia | omega)))
        · exact ((((hs₁.set _ _).trans sm₂).set _ _).trans sm₃).set _ _
        · obtain ⟨T, its, c, e, _, r⟩ := pr v hv
          exact ⟨T, its, c, e, by simp, r⟩
      | succ v =>
        have htf := turn_t1 hr hff
        rw [solve_go htf] at hsf
        obtain ⟨hvn, hv0⟩ := firstFree_succ hff
        rw [if_neg (by simp; (first | lia | omega))]
        (repeat (first | with_reducible refine wpAny_execs_cons ?_ | with_reducible refine wpAny_execs_nil ?_ | ((with_reducible show wpAny _ _ (eval (Expr.Name _ _) _) _ _ _); (first | (refine nameX_L (v := _) F (by (repeat (first | with_reducible assumption | with_reducible exact up_eq _ _ _ | refine (up_ne (by decide)).trans ?_ | exact rfl))) ?_ rfl rfl (by decide)) | (refine nameX_C (c := _) (o := _) (v := _) N rfl (by k_mem) (by assumption) ?_ rfl rfl (by decide)) | (refine r_glob G F (by k_is) ?_ rfl rfl (by decide)) | (refine r_boot G F (by boot_fast) (by k_is) (by decide) ?_ rfl rfl (by decide)))) | (with_reducible refine args_cons ?_ rfl) | (with_reducible refine args_nil ?_) | ((with_reducible show Keep _ _ ∧ _); refine And.intro F.keep ?_) | (with_reducible refine wpAny_Expr ?_ (by with_unfolding_all rfl) (by with_unfolding_all rfl)) | (with_reducible refine MethodCall_ (pl := _) ?_ (by with_unfolding_all rfl)) | (with_reducible refine Attribute_any_ ?_ (by with_unfolding_all rfl)) | ((with_reducible show wpAny _ _ (getAttr (Value.ref _) _ _) _ _ _); refine z_attr (attr := _) (v := _) G F (F.keep _ _ (by with_reducible assumption)) (by first | exact F.keep _ _ (by with_reducible assumption) | exact N.get (by k_mem)) (by k_is) (by k_is) (by k_is) (by k_is) (by k_get) rfl (fun tk => ?_)) | ((with_reducible show wpAny _ _ (getMethod (Value.ref _) _ _) _ _ _); refine r_meth (f := _) G F (F.keep _ _ (by with_reducible assumption)) (by first | exact F.keep _ _ (by with_reducible assumption) | exact N.get (by k_mem)) (by k_is) (by k_is) (by k_is) rfl ?_) | ((with_reducible show wpAny _ _ (callWith _ (Value.ref _) (_ :: _) (backTo _ (starEach (_ :: _) _)) []) _ _ _); refine r_callm G (by k_is) ?_ rfl rfl)))
        rw [hff]
        have S₄ := SolSt.of (pre := [(I, oI)]) N F.keep iM iW₂ iO₂ hx TG hwo hwm hom pw po pm
        refine decide_ok (G.keeps (keep_hid F.keep g3)) ((R.less (by decide)).deeper _) S₄.tr S₄.st ⟨by (first | lia | omega), by (first | lia | omega)⟩ hlen₂ hn3 (by (first | lia | omega)) (by (first | lia | omega)) (fun s₅ sm₅ kp₅ st₅ => ?_)
        have eI := hid_keep kp₅ (N.get (List.mem_cons_self ..)) (L3 _ hIA)
        have pr₅ := pr.move (h' := s₅.heap) (fun b o hb e => hid_keep kp₅ e (L3 _ (fun q => hb (.tail _ (.tail _ q)))))
        replace F := fr_hid F kp₅ g3 (L3 _ LA)
        have S₅ := S₄.turn kp₅ (fun b hb => by simp only [List.mem_cons, List.not_mem_nil, or_false] at hb ⊢; rcases hb with q | q | q <;> simp [q]) F.keep hx TG st₅
        show wpAny _ _ _ _ _ _
        (repeat (first | with_reducible refine wpAny_execs_nil ?_))
        refine hQ₁ .next _ ⟨_, F, fun o e => by rw [hoI] at e; cases e; exact eI, ((((hs₁.set _ _).trans sm₂).set _ _).trans sm₃).trans ((Same.of _ _ _).trans (sm₅.set _ _)), (up_ne (by decide)).trans ((up_ne (by decide)).trans hm), ⟨setW W₂ ((v + 1 : Nat) : Int), O₂ ++ [((v + 1 : Nat) : Int)], st.M ++ [O₂.length]⟩, vP, S₅.news gA LA, turn_inv Sm.val I₁ htf, pr₅, by (first | lia | omega), ?_, hsf⟩
        show (st.M ++ [O₂.length]).length ≤ i + 1
        rw [List.length_append]; simp; (first | lia | omega)
  · rintro m s₁ ⟨hs₁, hm, st, vP, -, -, -, -, -, hsf⟩ F
    rw [Nat.sub_self] at hsf
    cases hsf
end
end Mine
namespace Mine
section
variable {prog : Program} {w : World} {A : Around} {E : Value → Shared → Prop} {s : Shared} {p : Program} {loose : List Str} {mg mb : Str → Option Value}

theorem ns_ne {h : Heap} {L b : Addr} {m : Str → Option Value} {o : Obj} (hn : h.Ns L m) (e : h.get? b = some o) (hd : ∀ es k, o.data ≠ .dict es k) : b ≠ L := by
  rintro rfl
  obtain ⟨o', es, ep, ho', hd', _⟩ := hn
  rw [e] at ho'; cases ho'
  exact hd _ _ hd'
/-- nothing but d and the frame is turned: lists of lists stay -/
theorem ll_step {h h' : Heap} {a d L : Addr} {css : List (List Int)} {m : Str → Option Value} {es : List DictEntry} {k : Nat} (x : IsLL h a css) (hd : h.get? d = some (dictOf es k)) (hn : h.Ns L m)
    (mv : ∀ b o, b ≠ d → h.get? b = some o → b ≠ L → h'.get? b = some o) : IsLL h' a css := by
  have key : ∀ {b : Addr} {its : Array Value}, h.IsList b its → h'.IsList b its := fun {b its} hl => by
    obtain ⟨o, ho, hc, q, hdd⟩ := hl
    refine ⟨o, mv b o (ne_obj ho hd (by rw [hdd]; intro q; cases q)) ho (ns_ne hn ho (fun es k q => by rw [hdd] at q; cases q)), hc, q, hdd⟩
  obtain ⟨vs, hl, hp⟩ := x
  exact ⟨vs, key hl, hp.mono fun v c hv => let ⟨b, its, e, hl, hi⟩ := hv; ⟨b, its, e, key hl, hi⟩⟩

theorem ll_low {h : Heap} {a d : Addr} {css : List (List Int)} {es : List DictEntry} {k q : Nat} {ys : List Value} (x : IsLL h a css) (e : h.get? a = some (listOf ys.toArray q)) (hd : h.get? d = some (dictOf es k)) :
    ∀ v ∈ ys, ∃ b, v = .ref b ∧ @LT.lt Nat _ b h.objs.size ∧ b ≠ d := by
  obtain ⟨vs, ⟨o, ho, _, q', hdd⟩, hp⟩ := x
  rw [e] at ho; cases ho
  cases hdd
  intro v hv
  obtain ⟨i, hi, rfl⟩ := List.getElem_of_mem hv
  obtain ⟨c, _, b, its, ev, ⟨ob, hob, _, qb, hdb⟩, _⟩ := paired_at hp (List.getElem?_eq_getElem hi)
  exact ⟨b, ev, Heap.lt_size hob, ne_obj hob hd (by rw [hdb]; intro q; cases q)⟩
theorem solver_make {Q : Value → Shared → Prop} {n : Nat} {t : Tok} {a : Addr} {css : List (List Int)}
    (G : Gd (hd.heap_39 w.params) p loose mg mb s.heap) (R : Room A 4) (hcs : IsLL s.heap a css) (Sm : Small n css)
    (ret : ∀ x dS aC xT aP aW aO aM s', Same s s' → Keep s.heap s'.heap → SolSt w.params s'.heap x dS aC xT aP aW aO aM n (List.replicate (n + 1) 0) [] [] [] → IsLL (hideAll s'.heap (sFp dS aP aW aO aM)) aC css →
      (∀ b ∈ sFp dS aP aW aO aM, @LE.le Nat _ s.heap.objs.size b) → Q (.ref x) s') :
    wpAny (model prog w) A (call (.ref 156) [.ref a, .int (n : Nat) t]) Q E s := by
  have hn3 := Sm.n3
  obtain ⟨cvs, hca, hcp⟩ := hcs
  have hcl : cvs.length ≤ 1000 := by rw [paired_len hcp]; exact Sm.len
  refine r_make (fI := 134) G (by k_is) (by k_is) (by k_is) (fun x dx h' ex edx kp hx hdx hsz => ?_)
  have hxd : x ≠ dx := by rw [ex, edx]; exact Nat.succ_ne_self _
  have gdx : (hideAll h' [dx]).get? dx = none := hideAll_none _ (by simp)
  have hxg : (hideAll h' [dx]).get? x = some (instObj 156 dx) := hideAll_get _ hx (by simpa using hxd)
  have kpg : Keep s.heap (hideAll h' [dx]) := keep_hid kp (fun b hb => by rw [List.mem_singleton.mp hb, edx]; exact fresh_of (Keep.refl _))
  refine enterCode (g := hideAll h' [dx]) (binds := [("self", .ref x), ("clauses", .ref a), ("n", .int (n : Nat) t)]) (G.keeps kpg) (keep_hide _) (Nat.le_of_eq (hideAll_size _ _)) (by k_is) (by k_is) (R.make _ _).room (BindsTo.of_eq rfl) (locs rfl) ?_ rfl rfl rfl (by decide)
  intro L h tk F hk hL
  have hdL : dx ≠ L := Nat.ne_of_lt (Nat.lt_of_lt_of_le (Heap.lt_size hdx) hL)
  have N : News (hideAll h' [dx]) L h [] := News.nil
  have e₀ := hk _ _ hdx
  replace G := G.keeps kpg
  have hgs : (hideAll h' [dx]).objs.size = s.heap.objs.size + 2 := by rw [hideAll_size]; exact hsz
  have hsL : s.heap.objs.size + 2 ≤ L := by rw [← hsz]; exact hL
  have kpg' := kpg
  clear hk kp hx hdx hL
  generalize hideAll h' [dx] = g at *
  (repeat (first | with_reducible refine wpAny_execs_cons ?_ | ((with_reducible show wpAny _ _ (eval (Expr.Name _ _) _) _ _ _); (first | (refine nameX_L (v := _) F (by (repeat (first | with_reducible assumption | with_reducible exact up_eq _ _ _ | refine (up_ne (by decide)).trans ?_ | exact rfl))) ?_ rfl rfl (by decide)) | (refine nameX_C (c := _) (o := _) (v := _) N rfl (by k_mem) (by assumption) ?_ rfl rfl (by decide)) | (refine r_glob G F (by k_is) ?_ rfl rfl (by decide)) | (refine r_boot G F (by boot_fast) (by k_is) (by decide) ?_ rfl rfl (by decide)))) | (with_reducible refine plainObj_wpAny_Assign_Attribute ?_ (by with_unfolding_all rfl))))
  refine r_setattrB (fun t₁ => [⟨PyData.keyHash w.params "n", .str "n" t₁, .int (n : Nat) t⟩]) 1 G F (F.keep _ _ hxg) e₀ hdL gdx (by k_is) (by k_is) (by k_is) (by k_is) rfl (fun _ => rfl) (fun _ => by simp) (fun h tk t₁ F e₁ mv => ?_)
  replace N : News g L h [] := News.nil
  clear mv
  (repeat (first | with_reducible refine wpAny_execs_cons ?_ | (with_reducible refine plainObj_wpAny_Assign_Attribute ?_ (by with_unfolding_all rfl))))
  refine comp_expr (cl := []) rfl (by decide) rfl (by decide) rfl ?_ (fun _ => rfl)
  (repeat (first | ((with_reducible show wpAny _ _ (eval (Expr.Name _ _) _) _ _ _); (first | (refine nameX_L (v := _) F (by (repeat (first | with_reducible assumption | with_reducible exact up_eq _ _ _ | refine (up_ne (by decide)).trans ?_ | exact rfl))) ?_ rfl rfl (by decide)) | (refine nameX_C (c := _) (o := _) (v := _) N rfl (by k_mem) (by assumption) ?_ rfl rfl (by decide)) | (refine r_glob G F (by k_is) ?_ rfl rfl (by decide)) | (refine r_boot G F (by boot_fast) (by k_is) (by decide) ?_ rfl rfl (by decide))))))
  have kc : Keep s.heap h := kpg'.trans F.keep
  refine wpAny_mono (src_list (show A.handled = none from R.handled) (stays_list kc hca)) (fun it s₂ hit => ?_) fun _ _ e => e
  refine copies_in (G.keeps F.keep) (by k_is) (hcp.mono fun _ _ q => q.keep kc) hcl Sm.each rfl rfl (fun _ => rfl) (fun _ => rfl) (fun _ => rfl) (by decide) hit ?_
  intro C aC ys s₃ hCD hC hD hp hy sm₃ kp₃ hpl
  obtain ⟨qC, eC⟩ := hpl
  have IC : IsLL s₃.heap aC css := ⟨ys, IsL.isList eC, hp⟩
  replace F := F.keeps kp₃
  replace e₁ := kp₃ _ _ e₁
  replace N : News g L s₃.heap [] := News.nil
  (repeat (first | ((with_reducible show wpAny _ _ (eval (Expr.Name _ _) _) _ _ _); (first | (refine nameX_L (v := _) F (by (repeat (first | with_reducible assumption | with_reducible exact up_eq _ _ _ | refine (up_ne (by decide)).trans ?_ | exact rfl))) ?_ rfl rfl (by decide)) | (refine nameX_C (c := _) (o := _) (v := _) N rfl (by k_mem) (by assumption) ?_ rfl rfl (by decide)) | (refine r_glob G F (by k_is) ?_ rfl rfl (by decide)) | (refine r_boot G F (by boot_fast) (by k_is) (by decide) ?_ rfl rfl (by decide))))))
  refine r_setattrB (fun t₂ => [⟨PyData.keyHash w.params "n", .str "n" t₁, .int (n : Nat) t⟩, ⟨PyData.keyHash w.params "clauses", .str "clauses" t₂, .ref aC⟩]) 2 G F (F.keep _ _ hxg) e₁ hdL gdx (by k_is) (by k_is) (by k_is) (by k_is) rfl (fun _ => rfl) (fun _ => by simp) (fun h tk t₂ F₂ e₂ mv => ?_)
  replace IC := ll_step IC e₁ F.ns mv
  replace eC := mv _ _ (ne_obj eC e₁ (fun q => nomatch q)) eC (ns_ne F.ns eC (fun _ _ q => nomatch q))
  replace F := F₂
  replace N : News g L h [] := News.nil
  clear mv e₁
  (repeat (first | with_reducible refine wpAny_execs_cons ?_ | ((with_reducible show wpAny _ _ (eval (Expr.Name _ _) _) _ _ _); (first | (refine nameX_L (v := _) F (by (repeat (first | with_reducible assumption | with_reducible exact up_eq _ _ _ | refine (up_ne (by decide)).trans ?_ | exact rfl))) ?_ rfl rfl (by decide)) | (refine nameX_C (c := _) (o := _) (v := _) N rfl (by k_mem) (by assumption) ?_ rfl rfl (by decide)) | (refine r_glob G F (by k_is) ?_ rfl rfl (by decide)) | (refine r_boot G F (by boot_fast) (by k_is) (by decide) ?_ rfl rfl (by decide)))) | (with_reducible refine args_cons ?_ rfl) | (with_reducible refine args_nil ?_) | ((with_reducible show Keep _ _ ∧ _); refine And.intro F.keep ?_) | ((with_reducible show wpAny _ _ (callWith _ (Value.ref _) [] _ []) _ _ _); refine r_callf G (by k_is) ?_ rfl rfl) | (with_reducible refine Call_ ?_ rfl) | (with_reducible refine plainObj_wpAny_Assign_Attribute ?_ (by with_unfolding_all rfl))))
  refine trail_make' (G.keeps F.keep) ((R.make _ _).deeper _) hn3 (fun xT dT u₁ u₂ u₃ u₄ u₅ aW aO aM s₄ sm₄ kp₄ hT hdT gT gdT hW hO hM gW gWO gOM => ?_)
  have ldx : @LT.lt Nat _ dx h.objs.size := Heap.lt_size e₂
  have lL : @LT.lt Nat _ L h.objs.size := F.ns.lt
  have hTd : xT ≠ dx := Nat.ne_of_gt (Nat.lt_of_lt_of_le ldx gT)
  have hTL : xT ≠ L := Nat.ne_of_gt (Nat.lt_of_lt_of_le lL gT)
  have hdTd : dT ≠ dx := Nat.ne_of_gt (Nat.lt_of_lt_of_le ldx gdT)
  have hdTL : dT ≠ L := Nat.ne_of_gt (Nat.lt_of_lt_of_le lL gdT)
  have gO : @LE.le Nat _ h.objs.size aO := Nat.le_of_lt (Nat.lt_of_le_of_lt gW gWO)
  have gM : @LE.le Nat _ h.objs.size aM := Nat.le_of_lt (Nat.lt_of_le_of_lt gO gOM)
  have hWd : aW ≠ dx := Nat.ne_of_gt (Nat.lt_of_lt_of_le ldx gW)
  have hOd : aO ≠ dx := Nat.ne_of_gt (Nat.lt_of_lt_of_le ldx gO)
  have hMd : aM ≠ dx := Nat.ne_of_gt (Nat.lt_of_lt_of_le ldx gM)
  have hWL : aW ≠ L := Nat.ne_of_gt (Nat.lt_of_lt_of_le lL gW)
  have hOL : aO ≠ L := Nat.ne_of_gt (Nat.lt_of_lt_of_le lL gO)
  have hML : aM ≠ L := Nat.ne_of_gt (Nat.lt_of_lt_of_le lL gM)
  have low := ll_low IC eC e₂
  have lC : @LT.lt Nat _ aC h.objs.size := Heap.lt_size eC
  have hCd : aC ≠ dx := ne_obj eC e₂ (fun q => nomatch q)
  have hCL : aC ≠ L := ns_ne F.ns eC (fun _ _ q => nomatch q)
  replace eC := kp₄ _ _ eC
  replace IC := IC.keep kp₄
  replace e₂ := kp₄ _ _ e₂
  replace F := F.keeps kp₄
  replace N : News g L s₄.heap [] := News.nil
  obtain ⟨vW, qW, eW, iW⟩ := hW
  obtain ⟨vO, qO, eO, iO⟩ := hO
  obtain ⟨vM, qM, eM, iM⟩ := hM
  (repeat (first | ((with_reducible show wpAny _ _ (eval (Expr.Name _ _) _) _ _ _); (first | (refine nameX_L (v := _) F (by (repeat (first | with_reducible assumption | with_reducible exact up_eq _ _ _ | refine (up_ne (by decide)).trans ?_ | exact rfl))) ?_ rfl rfl (by decide)) | (refine nameX_C (c := _) (o := _) (v := _) N rfl (by k_mem) (by assumption) ?_ rfl rfl (by decide)) | (refine r_glob G F (by k_is) ?_ rfl rfl (by decide)) | (refine r_boot G F (by boot_fast) (by k_is) (by decide) ?_ rfl rfl (by decide))))))
  refine r_setattrB (fun t₃ => [⟨PyData.keyHash w.params "n", .str "n" t₁, .int (n : Nat) t⟩, ⟨PyData.keyHash w.params "clauses", .str "clauses" t₂, .ref aC⟩, ⟨PyData.keyHash w.params "trail", .str "trail" t₃, .ref xT⟩]) 3 G F (F.keep _ _ hxg) e₂ hdL gdx (by k_is) (by k_is) (by k_is) (by k_is) rfl (fun _ => rfl) (fun _ => by simp) (fun h tk t₃ F₂ e₃ mv => ?_)
  replace IC := ll_step IC e₂ F.ns mv
  replace hT := mv _ _ hTd hT hTL
  replace hdT := mv _ _ hdTd hdT hdTL
  replace eC := mv _ _ hCd eC hCL
  replace eW := mv _ _ hWd eW hWL
  replace eO := mv _ _ hOd eO hOL
  replace eM := mv _ _ hMd eM hML
  replace F := F₂
  replace N : News g L h [] := News.nil
  clear mv e₂
  refine wpAny_execs_cons ?_
  refine plainObj_wpAny_Assign_Attribute ?_ (by with_unfolding_all rfl)
  refine List_ ?_
  refine args_nil ?_
  refine wpAny_newList ?_ (by decide)
  obtain ⟨aP, hP⟩ : ∃ aP, aP = h.objs.size := ⟨_, rfl⟩
  have eP : (h.push { cls := .type "list", data := .seq ([] : List Value).toArray }).get? aP = some (listOf ([] : List Value).toArray 0) := by rw [hP]; exact Heap.get?_push_size _ rfl
  have kp₅ : Keep h (h.push { cls := .type "list", data := .seq ([] : List Value).toArray }) := fun b o e => Heap.get?_push_of_some _ e
  have hPW : aP ≠ aW := Nat.ne_of_gt (by rw [hP]; exact Heap.lt_size eW)
  have hPO : aP ≠ aO := Nat.ne_of_gt (by rw [hP]; exact Heap.lt_size eO)
  have hPM : aP ≠ aM := Nat.ne_of_gt (by rw [hP]; exact Heap.lt_size eM)
  have hPC : aP ≠ aC := Nat.ne_of_gt (by rw [hP]; exact Heap.lt_size eC)
  have hPd : aP ≠ dx := Nat.ne_of_gt (by rw [hP]; exact Heap.lt_size e₃)
  have hPL : aP ≠ L := Nat.ne_of_gt (by rw [hP]; exact F.ns.lt)
  have hPs : @LE.le Nat _ s.heap.objs.size aP := by
    have := F.ns.lt
    have h2 : @LT.lt Nat _ L aP := by rw [hP]; exact this
    (first | lia | omega)
  have lP : ∀ v ∈ ys, v ≠ .ref aP := fun v hv q => by
    obtain ⟨b, rfl, hb, _⟩ := low v hv
    cases q
    have l1 : @LT.lt Nat _ aW aP := by rw [hP]; exact Heap.lt_size eW
    exact Nat.lt_irrefl _ (Nat.lt_trans (Nat.lt_of_lt_of_le hb gW) l1)
  rw [← hP]
  generalize h.push { cls := .type "list", data := .seq ([] : List Value).toArray } = h₅ at *
  replace IC := IC.keep kp₅
  replace e₃ := kp₅ _ _ e₃
  replace F := F.keeps kp₅
  replace N : News g L h₅ [] := News.nil
  replace eC := kp₅ _ _ eC
  replace hT := kp₅ _ _ hT
  replace hdT := kp₅ _ _ hdT
  replace eW := kp₅ _ _ eW
  replace eO := kp₅ _ _ eO
  replace eM := kp₅ _ _ eM
  (repeat (first | ((with_reducible show wpAny _ _ (eval (Expr.Name _ _) _) _ _ _); (first | (refine nameX_L (v := _) F (by (repeat (first | with_reducible assumption | with_reducible exact up_eq _ _ _ | refine (up_ne (by decide)).trans ?_ | exact rfl))) ?_ rfl rfl (by decide)) | (refine nameX_C (c := _) (o := _) (v := _) N rfl (by k_mem) (by assumption) ?_ rfl rfl (by decide)) | (refine r_glob G F (by k_is) ?_ rfl rfl (by decide)) | (refine r_boot G F (by boot_fast) (by k_is) (by decide) ?_ rfl rfl (by decide))))))
  refine r_setattrB (fun t₄ => [⟨PyData.keyHash w.params "n", .str "n" t₁, .int (n : Nat) t⟩, ⟨PyData.keyHash w.params "clauses", .str "clauses" t₂, .ref aC⟩, ⟨PyData.keyHash w.params "trail", .str "trail" t₃, .ref xT⟩, ⟨PyData.keyHash w.params "proof", .str "proof" t₄, .ref aP⟩]) 4 G F (F.keep _ _ hxg) e₃ hdL gdx (by k_is) (by k_is) (by k_is) (by k_is) rfl (fun _ => rfl) (fun _ => by simp) (fun h tk t₄ F₂ e₄ mv => ?_)
  replace IC := ll_step IC e₃ F.ns mv
  replace hT := mv _ _ hTd hT hTL
  replace hdT := mv _ _ hdTd hdT hdTL
  replace eC := mv _ _ hCd eC hCL
  replace eW := mv _ _ hWd eW hWL
  replace eO := mv _ _ hOd eO hOL
  replace eM := mv _ _ hMd eM hML
  replace eP := mv _ _ hPd eP hPL
  replace F := F₂
  replace N : News g L h [] := News.nil
  clear mv e₃
  (repeat (first | with_reducible refine wpAny_execs_cons ?_ | with_reducible refine z_int ?_ | ((with_reducible show wpAny _ _ (eval (Expr.Name _ _) _) _ _ _); (first | (refine nameX_L (v := _) F (by (repeat (first | with_reducible assumption | with_reducible exact up_eq _ _ _ | refine (up_ne (by decide)).trans ?_ | exact rfl))) ?_ rfl rfl (by decide)) | (refine nameX_C (c := _) (o := _) (v := _) N rfl (by k_mem) (by assumption) ?_ rfl rfl (by decide)) | (refine r_glob G F (by k_is) ?_ rfl rfl (by decide)) | (refine r_boot G F (by boot_fast) (by k_is) (by decide) ?_ rfl rfl (by decide)))) | (with_reducible refine plainObj_wpAny_Assign_Attribute ?_ (by with_unfolding_all rfl))))
  refine r_setattrB (fun t₅ => sEs w.params t₁ t₂ t₃ t₄ t₅ t _ (n : Nat) 0 aC xT aP) 5 G F (F.keep _ _ hxg) e₄ hdL gdx (by k_is) (by k_is) (by k_is) (by k_is) rfl (fun _ => rfl) (fun _ => by simp) (fun h tk t₅ F₂ e₅ mv => ?_)
  replace IC := ll_step IC e₄ F.ns mv
  replace hT := mv _ _ hTd hT hTL
  replace hdT := mv _ _ hdTd hdT hdTL
  replace eC := mv _ _ hCd eC hCL
  replace eW := mv _ _ hWd eW hWL
  replace eO := mv _ _ hOd eO hOL
  replace eM := mv _ _ hMd eM hML
  replace eP := mv _ _ hPd eP hPL
  replace F := F₂
  replace N : News g L h [] := News.nil
  clear mv e₄
  (repeat (first | with_reducible refine wpAny_execs_nil ?_))
  have sL : @LE.le Nat _ s.heap.objs.size L := Nat.le_trans (Nat.le_add_right _ 2) hsL
  have sW : @LE.le Nat _ s.heap.objs.size aW := Nat.le_trans (Nat.le_of_lt (Nat.lt_of_le_of_lt sL lL)) gW
  have sO : @LE.le Nat _ s.heap.objs.size aO := Nat.le_trans sW (Nat.le_of_lt gWO)
  have sM : @LE.le Nat _ s.heap.objs.size aM := Nat.le_trans sO (Nat.le_of_lt gOM)
  refine ⟨rfl, ret x dx aC xT aP aW aO aM _ (((((Same.of s _ _).trans sm₃).set _ _).trans sm₄).set _ _) (kpg'.trans F.keep)
    ⟨F.keep _ _ hxg, ⟨t₁, t₂, t₃, t₄, t₅, t, _, 0, e₅⟩, ⟨dT, u₁, u₂, u₃, u₄, u₅, hT, hdT⟩, ⟨Nat.ne_of_lt gWO, Nat.ne_of_lt (Nat.lt_trans gWO gOM), Nat.ne_of_lt gOM, ⟨_, _, eW, iW⟩, ⟨_, _, eO, iO⟩, ⟨_, _, eM, iM⟩⟩, ⟨_, eP⟩, hPW, hPO, hPM⟩ (ll_hid IC ?_ ?_) ?_⟩
  · intro b hb
    simp only [List.mem_cons, List.not_mem_nil, or_false] at hb
    rcases hb with q | q | q | q | q <;> rw [q]
    · exact Ne.symm hCd
    · exact hPC
    · exact Nat.ne_of_gt (Nat.lt_of_lt_of_le lC gM)
    · exact Nat.ne_of_gt (Nat.lt_of_lt_of_le lC gW)
    · exact Nat.ne_of_gt (Nat.lt_of_lt_of_le lC gO)
  · rintro b hb vs ⟨o, ho, _, q', hdd⟩ hm
    rw [eC] at ho; cases ho
    cases hdd
    have hm' : Value.ref b ∈ ys := by simpa using hm
    obtain ⟨b', eb, lb, nb⟩ := low _ hm'
    cases eb
    simp only [List.mem_cons, List.not_mem_nil, or_false] at hb
    rcases hb with q | q | q | q | q
    · exact nb q
    · exact lP _ hm' (by rw [q])
    · rw [q] at lb; exact Nat.lt_irrefl _ (Nat.lt_of_lt_of_le lb gM)
    · rw [q] at lb; exact Nat.lt_irrefl _ (Nat.lt_of_lt_of_le lb gW)
    · rw [q] at lb; exact Nat.lt_irrefl _ (Nat.lt_of_lt_of_le lb gO)
  · intro b hb
    simp only [List.mem_cons, List.not_mem_nil, or_false] at hb
    rcases hb with q | q | q | q | q <;> rw [q]
    · rw [edx]; exact Nat.le_refl _
    · exact hPs
    · exact sM
    · exact sW
    · exact sO
end
end Mine
namespace Mine
theorem ne_some {a : Option Value} {v : Value} (e : a = some v) : a ≠ none := by rw [e]; intro q; cases q
theorem ns_ne_dict {h : Heap} {L b : Addr} {m : Str → Option Value} {es : List DictEntry} {k : Nat} {name : Str} (hn : h.Ns L m) (e : h.get? b = some (dictOf es k)) (hf : es.find? (·.key.isStr name) = none) (hm : m name ≠ none) : b ≠ L := by
  rintro rfl
  obtain ⟨o, es', ep, ho, hd, _, hf'⟩ := hn
  rw [e] at ho; cases ho
  cases hd
  refine hm ?_
  rw [← hf']
  unfold nsFind findBy
  rw [← Array.find?_toList, hf]
  rfl
theorem SolSt.step {P : Params} {h h' : Heap} {L : Addr} {m : Str → Option Value} {x dS aC xT aP aW aO aM : Addr} {n : Nat} {W O : List Int} {M : List Nat} {vP : List Value} (S : SolSt P h x dS aC xT aP aW aO aM n W O M vP) (hn : h.Ns L m) (hm : m "clauses" ≠ none) (LA : L ∉ sFp dS aP aW aO aM)
    (mv : ∀ b o, b ≠ L → h.get? b = some o → h'.get? b = some o) : SolSt P h' x dS aC xT aP aW aO aM n W O M vP := by
  obtain ⟨a, ⟨b1, b2, b3, b4, b5, b6, b7, b8, b⟩, ⟨dT, t1, t2, t3, t4, t5, hT, hdT⟩, ⟨n1, n2, n3, ⟨vW, qW, eW, iW⟩, ⟨vO, qO, eO, iO⟩, ⟨vM, qM, eM, iM⟩⟩, ⟨q, e⟩, n4, n5, n6⟩ := S
  have l5 := mem5.mp LA
  exact ⟨mv _ _ (ns_ne hn a (fun _ _ q => nomatch q)) a, ⟨b1, b2, b3, b4, b5, b6, b7, b8, mv _ _ (Ne.symm l5.1) b⟩, ⟨dT, t1, t2, t3, t4, t5, mv _ _ (ns_ne hn hT (fun _ _ q => nomatch q)) hT, mv _ _ (ns_ne_dict (name := "clauses") hn hdT rfl hm) hdT⟩,
    ⟨n1, n2, n3, ⟨vW, qW, mv _ _ (Ne.symm l5.2.2.2.1) eW, iW⟩, ⟨vO, qO, mv _ _ (Ne.symm l5.2.2.2.2) eO, iO⟩, ⟨vM, qM, mv _ _ (Ne.symm l5.2.2.1) eM, iM⟩⟩, ⟨q, mv _ _ (Ne.symm l5.2.1) e⟩, n4, n5, n6⟩
theorem ll_hstep {h h' : Heap} {L a : Addr} {m : Str → Option Value} {fp : List Addr} {css : List (List Int)} (x : IsLL (hideAll h fp) a css) (hn : h.Ns L m) (mv : ∀ b o, b ≠ L → h.get? b = some o → h'.get? b = some o) : IsLL (hideAll h' fp) a css := by
  have key : ∀ {b : Addr} {its : Array Value}, (hideAll h fp).IsList b its → (hideAll h' fp).IsList b its := fun {b its} hl => by
    obtain ⟨o, ho, hc, q, hdd⟩ := hl
    have ho' := of_hideAll fp ho
    refine ⟨o, hideAll_get fp (mv b o (ns_ne hn ho' (fun es k q => by rw [hdd] at q; cases q)) ho') (fun hm => ?_), hc, q, hdd⟩
    rw [hideAll_none fp hm] at ho; cases ho
  obtain ⟨vs, hl, hp⟩ := x
  exact ⟨vs, key hl, hp.mono fun v c hv => let ⟨b, its, e, hl, hi⟩ := hv; ⟨b, its, e, key hl, hi⟩⟩
theorem PrOk.step {h h' : Heap} {L : Addr} {m : Str → Option Value} {vP : List Value} (x : PrOk [] h vP) (hn : h.Ns L m) (mv : ∀ b o, b ≠ L → h.get? b = some o → h'.get? b = some o) : PrOk [] h' vP := fun v hv =>
  let ⟨T, its, c, e, hb, hl, r⟩ := x v hv; ⟨T, its, c, e, hb, hl.at fun o e => mv T o (list_ne_ns hl hn) e, r⟩
theorem PrOk.keep {h h' : Heap} {vP : List Value} (x : PrOk [] h vP) (k : Keep h h') : PrOk [] h' vP := x.move fun b o _ e => k b o e
theorem PrOk.paired {h : Heap} : ∀ {vP : List Value}, PrOk [] h vP → ∃ pr : List (List Int), Paired (IsI h) vP pr ∧ ∀ c ∈ pr, c.length ≤ 1000
  | [], _ => ⟨[], .nil, fun _ hc => nomatch hc⟩
  | v :: r, x => by
    obtain ⟨pr, hp, hc⟩ := PrOk.paired (vP := r) (fun v hv => x v (.tail _ hv))
    obtain ⟨T, its, c, e, _, hl, hi, hcl⟩ := x v (.head _)
    refine ⟨c :: pr, .cons ⟨T, its, e, hl, hi⟩ hp, fun c' hc' => ?_⟩
    rcases List.mem_cons.mp hc' with q | q
    · rw [q]; exact hcl
    · exact hc c' q

section
variable {prog : Program} {w : World} {A : Around} {E : Value → Shared → Prop} {s : Shared} {p : Program} {loose : List Str} {mg mb : Str → Option Value}

theorem verdict_ok {Q : Value → Shared → Prop} {n : Nat} {t : Tok} {a : Addr} {css : List (List Int)}
    (G : Gd (hd.heap_39 w.params) p loose mg mb s.heap) (R : Room A 5) (hcs : IsLL s.heap a css) (Sm : Small n css)
    (ret : ∀ T t v₂ v₃ s', Same s s' → Keep s.heap s'.heap → IsTup s'.heap T #[.str (if truthTable css n = true then "sat" else "unsat") t, v₂, v₃] → Q (.ref T) s') :
    wpAny (model prog w) A (call (.ref 165) [.ref a, .int (n : Nat) t]) Q E s := by
  have hn3 := Sm.n3
  have h32 : (2 : Nat) ^ (n + 2) ≤ 32 := by
    have : (2 : Nat) ^ (n + 2) ≤ 2 ^ 5 := Nat.pow_le_pow_right (by decide) (by (first | lia | omega))
    (first | lia | omega)
  refine enter (g := s.heap) (binds := [("clauses", .ref a), ("n", .int (n : Nat) t)]) G (Keep.refl _) (Nat.le_refl _) (by k_is) (by k_is) R.room (BindsTo.of_eq rfl) (locs rfl) ?_ rfl rfl rfl (by decide)
  intro L h tk F hk hL
  refine hideQ (fun Q₀ hQ₀ => ?_)
  have N : News s.heap L h [] := News.nil
  refine wpAny_execs_cons ?_
  refine wpAny_Assign_Name ?_ (by with_unfolding_all rfl)
  (repeat (first | ((with_reducible show wpAny _ _ (eval (Expr.Name _ _) _) _ _ _); (first | (refine nameX_L (v := _) F (by (repeat (first | with_reducible assumption | with_reducible exact up_eq _ _ _ | refine (up_ne (by decide)).trans ?_ | exact rfl))) ?_ rfl rfl (by decide)) | (refine nameX_C (c := _) (o := _) (v := _) N rfl (by k_mem) (by assumption) ?_ rfl rfl (by decide)) | (refine r_glob G F (by k_is) ?_ rfl rfl (by decide)) | (refine r_boot G F (by boot_fast) (by k_is) (by decide) ?_ rfl rfl (by decide)))) | (with_reducible refine args_cons ?_ rfl) | (with_reducible refine args_nil ?_) | ((with_reducible show Keep _ _ ∧ _); refine And.intro F.keep ?_) | ((with_reducible show wpAny _ _ (callWith _ (Value.ref _) [] _ []) _ _ _); refine r_callf G (by k_is) ?_ rfl rfl) | (with_reducible refine Call_ ?_ rfl)))
  refine solver_make (G.keeps F.keep) (R.deeper _) (hcs.keep F.keep) Sm (fun x dS aC xT aP aW aO aM s₁ sm₁ kp₁ S hC hfr => ?_)
  have lL : @LT.lt Nat _ L h.objs.size := F.ns.lt
  have sL : @LE.le Nat _ s.heap.objs.size h.objs.size := Nat.le_trans hL (Nat.le_of_lt lL)
  have gA : ∀ b ∈ sFp dS aP aW aO aM, s.heap.get? b = none := fun b hb => none_of_ge (Nat.le_trans sL (hfr b hb))
  have LA : L ∉ sFp dS aP aW aO aM := fun q => Nat.lt_irrefl _ (Nat.lt_of_lt_of_le lL (hfr _ q))
  replace F := F.keeps kp₁
  replace N : News s.heap L s₁.heap [] := News.nil
  refine z_storeB F N (fun h tk F₂ _ mv => ?_) rfl rfl
  replace S := S.step F.ns (ne_some (v := .ref a) rfl) LA mv
  replace hC := ll_hstep hC F.ns mv
  replace F := F₂
  replace N : News s.heap L h [] := News.nil
  clear mv
  refine wpAny_execs_cons ?_
  refine wpAny_Assign_Name ?_ (by with_unfolding_all rfl)
  obtain ⟨k₁, k₂, k₃, k₄, k₅, kn, kc, cf, eD⟩ := S.dict
  (repeat (first | ((with_reducible show wpAny _ _ (eval (Expr.Name _ _) _) _ _ _); (first | (refine nameX_L (v := _) F (by (repeat (first | with_reducible assumption | with_reducible exact up_eq _ _ _ | refine (up_ne (by decide)).trans ?_ | exact rfl))) ?_ rfl rfl (by decide)) | (refine nameX_C (c := _) (o := _) (v := _) N rfl (by k_mem) (by assumption) ?_ rfl rfl (by decide)) | (refine r_glob G F (by k_is) ?_ rfl rfl (by decide)) | (refine r_boot G F (by boot_fast) (by k_is) (by decide) ?_ rfl rfl (by decide)))) | (with_reducible refine MethodCall_ (pl := _) ?_ (by with_unfolding_all rfl))))
  refine r_meth (f := _) G F S.inst eD (by k_is) (by k_is) (by k_is) rfl ?_
  (repeat (first | with_reducible refine wpAny_BinOp ?_ | with_reducible refine z_int ?_ | with_reducible refine z_add ?_ | ((with_reducible show wpAny _ _ (eval (Expr.Name _ _) _) _ _ _); (first | (refine nameX_L (v := _) F (by (repeat (first | with_reducible assumption | with_reducible exact up_eq _ _ _ | refine (up_ne (by decide)).trans ?_ | exact rfl))) ?_ rfl rfl (by decide)) | (refine nameX_C (c := _) (o := _) (v := _) N rfl (by k_mem) (by assumption) ?_ rfl rfl (by decide)) | (refine r_glob G F (by k_is) ?_ rfl rfl (by decide)) | (refine r_boot G F (by boot_fast) (by k_is) (by decide) ?_ rfl rfl (by decide)))) | (with_reducible refine args_cons ?_ rfl) | ((with_reducible show wpAny _ _ (callWith _ (Value.ref _) (_ :: _) (backTo _ (starEach (_ :: _) _)) []) _ _ _); refine r_callm G (by k_is) ?_ rfl rfl)))
  refine z_pow (by (first | lia | omega)) (by (first | lia | omega)) (by decide) ?_
  have hpw : (2 : Int) ^ (((n : Nat) : Int) + 2).toNat + 8 = ((2 ^ (n + 2) + 8 : Nat) : Int) := by
    have : (((n : Nat) : Int) + 2).toNat = n + 2 := by (first | lia | omega)
    rw [this]; simp
  (repeat (first | with_reducible refine z_int ?_ | with_reducible refine z_add ?_ | (with_reducible refine args_nil ?_) | ((with_reducible show Keep _ _ ∧ _); refine And.intro F.keep ?_)))
  rw [hpw]
  refine solve_walk (st₀ := ⟨List.replicate (n + 1) 0, [], []⟩) (G.keeps (keep_hid F.keep gA)) (R.deeper _) S hC Sm ⟨start_tr n, by simp, by simp, fun i hi => by simp at hi⟩ rfl (by (first | lia | omega)) (solver_agrees hn3 Sm.val) (fun t₂ s₂ st vP sm₂ kp₂ S₂ pr hvl hWl hOl hMl => ?_)
  replace F := fr_hid F kp₂ gA LA
  replace N : News s.heap L s₂.heap [] := News.nil
  show wpAny _ _ _ _ _ _
  refine z_storeB F N (fun h tk F₂ _ mv => ?_) rfl rfl
  replace S₂ := S₂.step F.ns (ne_some (v := .ref a) ((up_ne (by decide)).trans rfl)) LA mv
  replace pr := pr.step F.ns mv
  replace F := F₂
  replace N : News s.heap L h [] := News.nil
  clear mv S eD k₁ k₂ k₃ k₄ k₅ kn kc cf
  refine wpAny_execs_cons ?_
  refine wpAny_Assign_Name ?_ (by with_unfolding_all rfl)
  obtain ⟨k₁, k₂, k₃, k₄, k₅, kn, kc, cf, eD⟩ := S₂.dict
  have TT := S₂.tr
  obtain ⟨dT, u₁, u₂, u₃, u₄, u₅, hT, hdT⟩ := TT
  refine Subscript_ ?_
  (repeat (first | ((with_reducible show wpAny _ _ (eval (Expr.Name _ _) _) _ _ _); (first | (refine nameX_L (v := _) F (by (repeat (first | with_reducible assumption | with_reducible exact up_eq _ _ _ | refine (up_ne (by decide)).trans ?_ | exact rfl))) ?_ rfl rfl (by decide)) | (refine nameX_C (c := _) (o := _) (v := _) N rfl (by k_mem) (by assumption) ?_ rfl rfl (by decide)) | (refine r_glob G F (by k_is) ?_ rfl rfl (by decide)) | (refine r_boot G F (by boot_fast) (by k_is) (by decide) ?_ rfl rfl (by decide)))) | (with_reducible refine MethodCall_ (pl := _) ?_ (by with_unfolding_all rfl)) | (with_reducible refine Attribute_any_ ?_ (by with_unfolding_all rfl))))
  refine z_attr (attr := _) (v := _) G F S₂.inst eD (by k_is) (by k_is) (by k_is) (by k_is) (by k_get) rfl (fun tk => ?_)
  refine r_meth (f := _) G F hT hdT (by k_is) (by k_is) (by k_is) rfl ?_
  (repeat (first | ((with_reducible show wpAny _ _ (callWith _ (Value.ref _) (_ :: _) (backTo _ (starEach [] _)) []) _ _ _); refine r_callm0 G F.keep (by k_is) ?_)))
  refine snapshot_ok (G.keeps F.keep) ((R.less (by decide)).deeper _) S₂.tr S₂.st hWl hOl hMl (fun T v₁ v₂ v₃ s₃ sm₃ kp₃ hTu => ?_)
  replace F := F.keeps kp₃
  replace N : News s.heap L s₃.heap [] := News.nil
  replace S₂ := S₂.keep kp₃
  replace pr := pr.keep kp₃
  (repeat (first | with_reducible refine z_int ?_))
  refine r_tup hTu rfl (by decide) ?_ rfl
  refine z_storeB F N (fun h tk F₂ _ mv => ?_) rfl rfl
  replace S₂ := S₂.step F.ns (ne_some (v := .ref a) ((up_ne (by decide)).trans ((up_ne (by decide)).trans rfl))) LA mv
  replace pr := pr.step F.ns mv
  replace F := F₂
  replace N : News s.heap L h [] := News.nil
  clear mv eD k₁ k₂ k₃ k₄ k₅ kn kc cf hT hdT
  obtain ⟨k₁, k₂, k₃, k₄, k₅, kn, kc, cf, eD⟩ := S₂.dict
  obtain ⟨qP, eP⟩ := S₂.pf
  obtain ⟨prs, hpp, hpe⟩ := pr.paired
  refine wpAny_execs_cons ?_
  refine comp_assign (g := s.heap) (cl := []) rfl rfl (by decide) rfl (by decide) rfl rfl rfl ?_ (fun _ => rfl)
  (repeat (first | ((with_reducible show wpAny _ _ (eval (Expr.Name _ _) _) _ _ _); (first | (refine nameX_L (v := _) F (by (repeat (first | with_reducible assumption | with_reducible exact up_eq _ _ _ | refine (up_ne (by decide)).trans ?_ | exact rfl))) ?_ rfl rfl (by decide)) | (refine nameX_C (c := _) (o := _) (v := _) N rfl (by k_mem) (by assumption) ?_ rfl rfl (by decide)) | (refine r_glob G F (by k_is) ?_ rfl rfl (by decide)) | (refine r_boot G F (by boot_fast) (by k_is) (by decide) ?_ rfl rfl (by decide)))) | (with_reducible refine Attribute_any_ ?_ (by with_unfolding_all rfl))))
  refine z_attr (attr := _) (v := _) G F S₂.inst eD (by k_is) (by k_is) (by k_is) (by k_is) (by k_get) rfl (fun tk => ?_)
  refine wpAny_mono (src_list (show A.handled = none from R.handled) (IsL.isList eP)) (fun it s₄ hit => ?_) fun _ _ e => e
  refine copies_in (G.keeps F.keep) (by k_is) hpp hvl hpe rfl rfl (fun _ => rfl) (fun _ => rfl) (fun _ => rfl) (by decide) hit ?_
  intro C D ys s₅ hCD hC hD hp hy sm₅ kp₅ hpl
  obtain ⟨fp, St, _, _, _, _, _, _, k₂'⟩ := hit
  refine fin_assign F N k₂' kp₅ hC hD (fun h tk q F N hk' => ?_)
  show wpAny _ _ _ _ _ _
  (repeat (first | with_reducible refine wpAny_execs_cons ?_ | with_reducible refine wpAny_Return_some ?_ | with_reducible refine Tuple_ ?_ | ((with_reducible show wpAny _ _ (eval (Expr.Name _ _) _) _ _ _); (first | (refine nameX_L (v := _) F (by (repeat (first | with_reducible assumption | with_reducible exact up_eq _ _ _ | refine (up_ne (by decide)).trans ?_ | exact rfl))) ?_ rfl rfl (by decide)) | (refine nameX_C (c := _) (o := _) (v := _) N rfl (by k_mem) (by assumption) ?_ rfl rfl (by decide)) | (refine r_glob G F (by k_is) ?_ rfl rfl (by decide)) | (refine r_boot G F (by boot_fast) (by k_is) (by decide) ?_ rfl rfl (by decide)))) | (with_reducible refine args_cons ?_ rfl) | (with_reducible refine args_nil ?_) | ((with_reducible show wpAny _ _ (newTuple _) _ _ _); (refine z_newTuple F N ?_ (by size_fits)); clear F N; intro h F N)))
  refine hQ₀ (.ret _) _ (ret _ _ _ _ _ ((((((((Same.of s _ _).trans sm₁).set _ _).trans sm₂).set _ _).trans sm₃).trans ((Same.of _ _ _).trans sm₅)).set _ _) F.keep ⟨_, N.get (List.mem_cons_self ..), rfl, _, rfl⟩)

theorem law_solver_ok {Q : Value → Shared → Prop} {n : Nat} {t : Tok} {a : Addr} {css : List (List Int)}
    (G : Gd (hd.heap_39 w.params) p loose mg mb s.heap) (R : Room A 6) (hcs : IsLL s.heap a css) (Sm : Small n css)
    (ret : ∀ s', Same s s' → Keep s.heap s'.heap → Q (.bool true) s') :
    wpAny (model prog w) A (call (.ref 172) [.ref a, .int (n : Nat) t]) Q E s := by
  refine enter (g := s.heap) (binds := [("clauses", .ref a), ("n", .int (n : Nat) t)]) G (Keep.refl _) (Nat.le_refl _) (by k_is) (by k_is) R.room (BindsTo.of_eq rfl) (locs rfl) ?_ rfl rfl rfl (by decide)
  intro L h tk F hk hL
  have N : News s.heap L h [] := News.nil
  (repeat (first | with_reducible refine wpAny_execs_cons ?_ | with_reducible refine Subscript_ ?_ | ((with_reducible show wpAny _ _ (eval (Expr.Name _ _) _) _ _ _); (first | (refine nameX_L (v := _) F (by (repeat (first | with_reducible assumption | with_reducible exact up_eq _ _ _ | refine (up_ne (by decide)).trans ?_ | exact rfl))) ?_ rfl rfl (by decide)) | (refine nameX_C (c := _) (o := _) (v := _) N rfl (by k_mem) (by assumption) ?_ rfl rfl (by decide)) | (refine r_glob G F (by k_is) ?_ rfl rfl (by decide)) | (refine r_boot G F (by boot_fast) (by k_is) (by decide) ?_ rfl rfl (by decide)))) | (with_reducible refine args_cons ?_ rfl) | (with_reducible refine args_nil ?_) | ((with_reducible show Keep _ _ ∧ _); refine And.intro F.keep ?_) | ((with_reducible show wpAny _ _ (callWith _ (Value.ref _) [] _ []) _ _ _); refine r_callf G (by k_is) ?_ rfl rfl) | (with_reducible refine Call_ ?_ rfl) | (with_reducible refine wpAny_Assign_Name ?_ (by with_unfolding_all rfl))))
  refine verdict_ok (G.keeps F.keep) (R.deeper _) (hcs.keep F.keep) Sm (fun T t₁ v₂ v₃ s₁ sm₁ kp₁ hT => ?_)
  replace F := F.keeps kp₁
  replace N := N.grown kp₁
  (repeat (first | with_reducible refine z_int ?_))
  refine r_tup hT rfl (by decide) ?_ rfl
  (repeat (first | with_reducible refine wpAny_execs_cons ?_ | with_reducible refine wpAny_If ?_ | ((with_reducible show wpAny _ _ (eval (Expr.Name _ _) _) _ _ _); (first | (refine nameX_L (v := _) F (by (repeat (first | with_reducible assumption | with_reducible exact up_eq _ _ _ | refine (up_ne (by decide)).trans ?_ | exact rfl))) ?_ rfl rfl (by decide)) | (refine nameX_C (c := _) (o := _) (v := _) N rfl (by k_mem) (by assumption) ?_ rfl rfl (by decide)) | (refine r_glob G F (by k_is) ?_ rfl rfl (by decide)) | (refine r_boot G F (by boot_fast) (by k_is) (by decide) ?_ rfl rfl (by decide)))) | (with_reducible refine args_cons ?_ rfl) | (with_reducible refine args_nil ?_) | ((with_reducible show Keep _ _ ∧ _); refine And.intro F.keep ?_) | ((with_reducible show wpAny _ _ (callWith _ (Value.ref _) [] _ []) _ _ _); refine r_callf G (by k_is) ?_ rfl rfl) | (with_reducible refine Call_ ?_ rfl) | (with_reducible refine isTrue_plain ?_ (by with_unfolding_all rfl)) | ((with_reducible show wpAny _ _ (storeName _ _ _) _ _ _); (refine z_store F N ?_ rfl rfl; clear F N; intro h tk F N hg))))
  refine truth_table_ok (G.keeps F.keep) ((R.less (by decide)).deeper _) (hcs.keep F.keep) Sm (fun s₂ sm₂ kp₂ => ?_)
  replace F := F.keeps kp₂
  replace N := N.grown kp₂
  (repeat (first | with_reducible refine wpAny_truthy_bool ?_))
  cases htt : truthTable css n with
  | true =>
    simp only [if_true]
    (repeat (first | with_reducible refine wpAny_execs_cons ?_ | with_reducible refine wpAny_Return_some ?_ | (with_reducible refine wpAny_Compare1 ?_ (by with_unfolding_all rfl)) | with_reducible refine z_str ?_ | ((with_reducible show wpAny _ _ (eval (Expr.Name _ _) _) _ _ _); (first | (refine nameX_L (v := _) F (by (repeat (first | with_reducible assumption | with_reducible exact up_eq _ _ _ | refine (up_ne (by decide)).trans ?_ | exact rfl))) ?_ rfl rfl (by decide)) | (refine nameX_C (c := _) (o := _) (v := _) N rfl (by k_mem) (by assumption) ?_ rfl rfl (by decide)) | (refine r_glob G F (by k_is) ?_ rfl rfl (by decide)) | (refine r_boot G F (by boot_fast) (by k_is) (by decide) ?_ rfl rfl (by decide))))))
    refine eq_str ?_
    rw [htt]
    rw [show ((if true = true then "sat" else "unsat" : Str) == ("sat" : Str)) = true from rfl]
    skip
    exact ret _ ((((Same.of s _ _).trans sm₁).set _ _).trans sm₂ |>.set _ _) F.keep
  | false =>
    simp only [Bool.false_eq_true, if_false]
    (repeat (first | with_reducible refine wpAny_execs_cons ?_ | with_reducible refine wpAny_execs_nil ?_ | with_reducible refine wpAny_Return_some ?_ | (with_reducible refine wpAny_Compare1 ?_ (by with_unfolding_all rfl)) | with_reducible refine z_str ?_ | ((with_reducible show wpAny _ _ (eval (Expr.Name _ _) _) _ _ _); (first | (refine nameX_L (v := _) F (by (repeat (first | with_reducible assumption | with_reducible exact up_eq _ _ _ | refine (up_ne (by decide)).trans ?_ | exact rfl))) ?_ rfl rfl (by decide)) | (refine nameX_C (c := _) (o := _) (v := _) N rfl (by k_mem) (by assumption) ?_ rfl rfl (by decide)) | (refine r_glob G F (by k_is) ?_ rfl rfl (by decide)) | (refine r_boot G F (by boot_fast) (by k_is) (by decide) ?_ rfl rfl (by decide))))))
    refine eq_str ?_
    rw [htt]
    rw [show ((if false = true then "sat" else "unsat" : Str) == ("unsat" : Str)) = true from rfl]
    skip
    exact ret _ ((((Same.of s _ _).trans sm₁).set _ _).trans sm₂ |>.set _ _) F.keep
end
end Mine
namespace Mine
section
variable {prog : Program} {w : World} {A : Around} {E : Value → Shared → Prop} {s : Shared} {p : Program} {loose : List Str} {mg mb : Str → Option Value}

theorem cell_ok {Q : Value → Shared → Prop} {l : Addr} {vs : List Value} {ns : List Int} {i : Nat} {t : Tok}
    (G : Gd (hd.heap_39 w.params) p loose mg mb s.heap) (R : Room A 1) (hl : s.heap.IsList l vs.toArray) (hi : IntsAre vs ns) (hsz : ns.length ≤ 1000) (hib : i ≤ 1000)
    (ret : ∀ t s', Same s s' → Keep s.heap s'.heap → Q (.int (ns.getD i 0) t) s') :
    wpAny (model prog w) A (call (.ref 179) [.ref l, .int (i : Nat) t]) Q E s := by
  refine enter (g := s.heap) (binds := [("script", .ref l), ("i", .int (i : Nat) t)]) G (Keep.refl _) (Nat.le_refl _) (by k_is) (by k_is) R.room (BindsTo.of_eq rfl) (locs rfl) ?_ rfl rfl rfl (by decide)
  intro L h tk F hk hL
  have N : News s.heap L h [] := News.nil
  (repeat (first | with_reducible refine wpAny_execs_cons ?_ | with_reducible refine wpAny_If ?_ | (with_reducible refine wpAny_isTrue_Compare1 ?_ (by with_unfolding_all rfl)) | ((with_reducible show wpAny _ _ (eval (Expr.Name _ _) _) _ _ _); (first | (refine nameX_L (v := _) F (by (repeat (first | with_reducible assumption | with_reducible exact up_eq _ _ _ | refine (up_ne (by decide)).trans ?_ | exact rfl))) ?_ rfl rfl (by decide)) | (refine nameX_C (c := _) (o := _) (v := _) N rfl (by k_mem) (by assumption) ?_ rfl rfl (by decide)) | (refine r_glob G F (by k_is) ?_ rfl rfl (by decide)) | (refine r_boot G F (by boot_fast) (by k_is) (by decide) ?_ rfl rfl (by decide)))) | (with_reducible refine args_cons ?_ rfl) | (with_reducible refine args_nil ?_) | ((with_reducible show wpAny _ _ (callWith _ (Value.builtin _) [] _ []) _ _ _); refine callWith_builtin1 ?_ rfl rfl) | (with_reducible refine Call_ ?_ rfl)))
  refine z_len (n := ns.length) (stays_list F.keep hl) hi.length (by (first | lia | omega)) (fun tl tk => ?_)
  (repeat (first | with_reducible refine lt_int ?_ | with_reducible refine wpAny_truthy_bool ?_))
  refine split_bool (fun hc => ?_) (fun hc => ?_)
  · have hc' : i < ns.length := by simpa using hc
    (repeat (first | with_reducible refine wpAny_execs_cons ?_ | with_reducible refine wpAny_Return_some ?_ | with_reducible refine Subscript_ ?_ | ((with_reducible show wpAny _ _ (eval (Expr.Name _ _) _) _ _ _); (first | (refine nameX_L (v := _) F (by (repeat (first | with_reducible assumption | with_reducible exact up_eq _ _ _ | refine (up_ne (by decide)).trans ?_ | exact rfl))) ?_ rfl rfl (by decide)) | (refine nameX_C (c := _) (o := _) (v := _) N rfl (by k_mem) (by assumption) ?_ rfl rfl (by decide)) | (refine r_glob G F (by k_is) ?_ rfl rfl (by decide)) | (refine r_boot G F (by boot_fast) (by k_is) (by decide) ?_ rfl rfl (by decide))))))
    refine r_item (stays_list F.keep hl) hi (by (first | lia | omega)) (by (first | lia | omega)) (by (first | lia | omega)) (fun t => ?_) rfl
    rw [Int.toNat_natCast]
    exact ret _ _ (Same.of _ _ _) F.keep
  · have hc' : ¬ i < ns.length := by simpa using hc
    (repeat (first | with_reducible refine wpAny_execs_cons ?_ | with_reducible refine wpAny_execs_nil ?_ | with_reducible refine wpAny_Return_some ?_ | with_reducible refine z_int ?_))
    have e : ns.getD i 0 = 0 := by rw [List.getD_eq_getElem?_getD, List.getElem?_eq_none (by (first | lia | omega))]; rfl
    rw [e] at ret
    exact ret _ _ (Same.of _ _ _) F.keep

theorem literal_ok {Q : Value → Shared → Prop} {r : Int} {n : Nat} {t u : Tok}
    (G : Gd (hd.heap_39 w.params) p loose mg mb s.heap) (R : Room A 1) (hn : 1 ≤ n) (hn3 : n ≤ 3)
    (ret : ∀ l t s', Same s s' → Keep s.heap s'.heap → Valid n l → Q (.int l t) s') :
    wpAny (model prog w) A (call (.ref 186) [.int r t, .int (n : Nat) u]) Q E s := by
  refine enter (g := s.heap) (binds := [("r", .int r t), ("n", .int (n : Nat) u)]) G (Keep.refl _) (Nat.le_refl _) (by k_is) (by k_is) R.room (BindsTo.of_eq rfl) (locs rfl) ?_ rfl rfl rfl (by decide)
  intro L h tk F hk hL
  have N : News s.heap L h [] := News.nil
  have h0 : 0 ≤ r.fmod (2 * (n : Nat)) := fm0 _ (by (first | lia | omega))
  have h1 : r.fmod (2 * (n : Nat)) < 2 * (n : Nat) := fm1 _ (by (first | lia | omega))
  (repeat (first | with_reducible refine wpAny_execs_cons ?_ | with_reducible refine wpAny_BinOp ?_ | with_reducible refine z_int ?_ | ((with_reducible show wpAny _ _ (eval (Expr.Name _ _) _) _ _ _); (first | (refine nameX_L (v := _) F (by (repeat (first | with_reducible assumption | with_reducible exact up_eq _ _ _ | refine (up_ne (by decide)).trans ?_ | exact rfl))) ?_ rfl rfl (by decide)) | (refine nameX_C (c := _) (o := _) (v := _) N rfl (by k_mem) (by assumption) ?_ rfl rfl (by decide)) | (refine r_glob G F (by k_is) ?_ rfl rfl (by decide)) | (refine r_boot G F (by boot_fast) (by k_is) (by decide) ?_ rfl rfl (by decide)))) | (with_reducible refine wpAny_Assign_Name ?_ (by with_unfolding_all rfl))))
  refine z_mul ?_ (by mul_fits)
  refine z_mod (by (first | lia | omega)) ?_
  generalize r.fmod (2 * (n : Nat)) = d at *
  (repeat (first | with_reducible refine wpAny_execs_cons ?_ | with_reducible refine wpAny_If ?_ | (with_reducible refine wpAny_isTrue_Compare1 ?_ (by with_unfolding_all rfl)) | with_reducible refine lt_int ?_ | with_reducible refine wpAny_truthy_bool ?_ | ((with_reducible show wpAny _ _ (eval (Expr.Name _ _) _) _ _ _); (first | (refine nameX_L (v := _) F (by (repeat (first | with_reducible assumption | with_reducible exact up_eq _ _ _ | refine (up_ne (by decide)).trans ?_ | exact rfl))) ?_ rfl rfl (by decide)) | (refine nameX_C (c := _) (o := _) (v := _) N rfl (by k_mem) (by assumption) ?_ rfl rfl (by decide)) | (refine r_glob G F (by k_is) ?_ rfl rfl (by decide)) | (refine r_boot G F (by boot_fast) (by k_is) (by decide) ?_ rfl rfl (by decide)))) | ((with_reducible show wpAny _ _ (storeName _ _ _) _ _ _); (refine z_store F N ?_ rfl rfl; clear F N; intro h tk F N hg))))
  refine split_bool (fun hc => ?_) (fun hc => ?_)
  · have hc' : d < n := by simpa using hc
    (repeat (first | with_reducible refine wpAny_execs_cons ?_ | with_reducible refine wpAny_Return_some ?_ | with_reducible refine wpAny_BinOp ?_ | with_reducible refine z_int ?_ | with_reducible refine z_add ?_ | ((with_reducible show wpAny _ _ (eval (Expr.Name _ _) _) _ _ _); (first | (refine nameX_L (v := _) F (by (repeat (first | with_reducible assumption | with_reducible exact up_eq _ _ _ | refine (up_ne (by decide)).trans ?_ | exact rfl))) ?_ rfl rfl (by decide)) | (refine nameX_C (c := _) (o := _) (v := _) N rfl (by k_mem) (by assumption) ?_ rfl rfl (by decide)) | (refine r_glob G F (by k_is) ?_ rfl rfl (by decide)) | (refine r_boot G F (by boot_fast) (by k_is) (by decide) ?_ rfl rfl (by decide))))))
    exact ret _ _ _ (Same.of _ _ _) F.keep ⟨by (first | lia | omega), by (first | lia | omega)⟩
  · have hc' : ¬ d < n := by simpa using hc
    (repeat (first | with_reducible refine wpAny_execs_cons ?_ | with_reducible refine wpAny_execs_nil ?_ | with_reducible refine wpAny_Return_some ?_ | with_reducible refine wpAny_BinOp ?_ | with_reducible refine z_int ?_ | with_reducible refine z_sub ?_ | ((with_reducible show wpAny _ _ (eval (Expr.Name _ _) _) _ _ _); (first | (refine nameX_L (v := _) F (by (repeat (first | with_reducible assumption | with_reducible exact up_eq _ _ _ | refine (up_ne (by decide)).trans ?_ | exact rfl))) ?_ rfl rfl (by decide)) | (refine nameX_C (c := _) (o := _) (v := _) N rfl (by k_mem) (by assumption) ?_ rfl rfl (by decide)) | (refine r_glob G F (by k_is) ?_ rfl rfl (by decide)) | (refine r_boot G F (by boot_fast) (by k_is) (by decide) ?_ rfl rfl (by decide))))))
    exact ret _ _ _ (Same.of _ _ _) F.keep ⟨by (first | lia | omega), by (first | lia | omega)⟩
end
end Mine
namespace Mine
section
variable {prog : Program} {w : World} {A : Around} {E : Value → Shared → Prop} {s : Shared} {p : Program} {loose : List Str} {mg mb : Str → Option Value}

theorem square_ok {Q : Value → Shared → Prop} {sp : Int} {n : Nat} {t u : Tok}
    (G : Gd (hd.heap_39 w.params) p loose mg mb s.heap) (R : Room A 1) (hn : 2 ≤ n) (hn3 : n ≤ 3)
    (ret : ∀ D css s', Same s s' → Keep s.heap s'.heap → IsLL s'.heap D css → ValidCs n css → css.length ≤ 4 → (∀ c ∈ css, c.length ≤ 4) → Q (.ref D) s') :
    wpAny (model prog w) A (call (.ref 196) [.int (n : Nat) t, .int sp u]) Q E s := by
  refine enterC (g := s.heap) (binds := [("n", .int (n : Nat) t), ("spared", .int sp u)]) G (Keep.refl _) (Nat.le_refl _) (by k_is) (by k_is) R.room (BindsTo.of_eq rfl) rfl (by decide +kernel) ?_ rfl rfl rfl
  intro L h tk cells F N Y hk hL
  refine hideQ (fun Q₀ hQ₀ => ?_)
  obtain ⟨o₁, o₂, rfl, d₁, d₂⟩ := CellsAre.two (n := "square") (n' := "spared") (c := L + 1 + 1) (c' := L + 1) Y
  replace d₁ : o₁.data = .cell none := d₁
  replace d₂ : o₂.data = .cell (some (.int sp u)) := d₂
  (repeat (first | with_reducible refine wpAny_execs_cons ?_ | with_reducible refine wpAny_BinOp ?_ | with_reducible refine UnaryOp_ ?_ | with_reducible refine z_int ?_ | with_reducible refine List_ ?_ | with_reducible refine z_sub ?_ | with_reducible refine z_neg ?_ | ((with_reducible show wpAny _ _ (eval (Expr.Name _ _) _) _ _ _); (first | (refine nameX_L (v := _) F (by (repeat (first | with_reducible assumption | with_reducible exact up_eq _ _ _ | refine (up_ne (by decide)).trans ?_ | exact rfl))) ?_ rfl rfl (by decide)) | (refine nameX_C (c := _) (o := _) (v := _) N rfl (by k_mem) (by assumption) ?_ rfl rfl (by decide)) | (refine r_glob G F (by k_is) ?_ rfl rfl (by decide)) | (refine r_boot G F (by boot_fast) (by k_is) (by decide) ?_ rfl rfl (by decide)))) | (with_reducible refine args_cons ?_ rfl) | (with_reducible refine args_nil ?_) | ((with_reducible show wpAny _ _ (newList _) _ _ _); (refine z_newList F N ?_ (by size_fits)); clear F N; intro D h F N hDlt) | (with_reducible refine wpAny_Assign_Name ?_ (by with_unfolding_all rfl)) | ((with_reducible show wpAny _ _ (storeName _ _ _) _ _ _); (refine z_store F N ?_ rfl rfl; clear F N; intro h tk F N hg))))
  rename_i D₀ h₀ l₀ D₁ h₁ l₁ D₂ h₂ l₂ D₃ h₃ l₃
  clear l₀ l₁ l₂ l₃ hDlt
  have c1 : ∀ {X : Addr} {its : Array Value} {q : Nat}, h.get? X = some (listOf its q) → X ≠ L + 1 + 1 := fun e => ne_obj e (N.get (.tail _ (.tail _ (.tail _ (.tail _ (.tail _ (.head _))))))) (by rw [d₁]; intro q; cases q)
  have c2 : ∀ p ∈ [(L + 1, o₂)], p.1 ≠ L + 1 + 1 := fun p hp => by rw [List.mem_singleton.mp hp]; exact Nat.ne_of_lt (Nat.lt_succ_self _)
  refine storeX_C F N rfl (UpdF.tail (c1 (N.get (.head _))) (UpdF.tail (c1 (N.get (.tail _ (.head _)))) (UpdF.tail (c1 (N.get (.tail _ (.tail _ (.head _))))) (UpdF.tail (c1 (N.get (.tail _ (.tail _ (.tail _ (.head _)))))) (UpdF.tail (c1 (N.get (.tail _ (.tail _ (.tail _ (.tail _ (.head _))))))) (UpdF.head c2)))))) d₁ (fun h o' F N d' => ?_) rfl rfl
  (repeat (first | with_reducible refine wpAny_execs_cons ?_ | with_reducible refine wpAny_Return_some ?_))
  refine comp_expr (cl := [("square", L + 1 + 1), ("spared", L + 1)]) rfl (by decide) rfl (by decide) rfl ?_ (fun _ => rfl)
  (repeat (first | with_reducible refine z_int ?_ | ((with_reducible show wpAny _ _ (eval (Expr.Name _ _) _) _ _ _); (first | (refine nameX_L (v := _) F (by (repeat (first | with_reducible assumption | with_reducible exact up_eq _ _ _ | refine (up_ne (by decide)).trans ?_ | exact rfl))) ?_ rfl rfl (by decide)) | (refine nameX_C (c := _) (o := _) (v := _) N rfl (by k_mem) (by assumption) ?_ rfl rfl (by decide)) | (refine r_glob G F (by k_is) ?_ rfl rfl (by decide)) | (refine r_boot G F (by boot_fast) (by k_is) (by decide) ?_ rfl rfl (by decide)))) | (with_reducible refine args_cons ?_ rfl) | (with_reducible refine args_nil ?_) | ((with_reducible show wpAny _ _ (callWith _ (Value.type _) [] _ []) _ _ _); refine Pv.callWith_type1 ?_ rfl rfl) | (with_reducible refine Call_ ?_ rfl)))
  (refine z_range1 F N ?_; clear F N; intro r h tk t0 u0 v0 F N hr hkr)
  refine wpAny_mono (src_range (n := 4) (show A.handled = none from R.handled) hr (sm0 (n := 4) (by decide)) (sz0 4)) (fun it s₂ hit => ?_) fun _ _ e => e
  refine compIn_v hit (by decide) (fun i ys => ∃ css, Paired (IsI h) ys css ∧ ValidCs n css ∧ css.length ≤ i ∧ ∀ c ∈ css, c.length ≤ 4) ⟨[], .nil, (by intro c hc; cases hc), Nat.le_refl _, (by intro c hc; cases hc)⟩ ?_ ?_
  · rintro C i ys v s₃ m₃ E' hi' ⟨t, rfl⟩ ⟨css, hp, hv, hle, he⟩ sm kp hn₃ hm₃
    have dc₁ : s₃.heap.IsCell (L + 1 + 1) (some (.ref D)) := ⟨o', kp _ _ (N.get (.tail _ (.tail _ (.tail _ (.tail _ (.tail _ (.head _))))))), d'⟩
    have dc₂ : s₃.heap.IsCell (L + 1) (some (.int sp u)) := ⟨o₂, kp _ _ (N.get (.tail _ (.tail _ (.tail _ (.tail _ (.tail _ (.tail _ (.head _)))))))), d₂⟩
    refine tests_one ?_
    refine wpAny_isTrue_Compare1 ?_ (by with_unfolding_all rfl)
    refine e_local hn₃ hm₃ ?_ rfl rfl (by decide)
    refine e_cell (c := L + 1) rfl dc₂ ?_ rfl rfl (by decide)
    (repeat (first | with_reducible refine ne_int ?_ | with_reducible refine wpAny_truthy_bool ?_))
    refine ⟨Same.of _ _ _, Keep.refl _, ?_⟩
    have he0 : (0 : Int) + (i : Nat) = (i : Nat) := by (first | lia | omega)
    refine split_bool (fun _ => ?_) (fun _ => ?_)
    · refine Subscript_ ?_
      refine e_cell (c := L + 1 + 1) rfl dc₁ ?_ rfl rfl (by decide)
      refine e_local hn₃ hm₃ ?_ rfl rfl (by decide)
      have hlD := stays_list kp (IsL.isList (N.get (.head _)))
      have val : ∀ {x : Int}, x ≠ 0 → x.natAbs ≤ n → Valid n x := fun a b => ⟨a, b⟩
      have fin : ∀ (y : Value) (a b : Int), IsI h y [a, b] → Valid n a → Valid n b → ∃ css, Paired (IsI h) (ys ++ [y]) css ∧ ValidCs n css ∧ css.length ≤ i + 1 ∧ ∀ c ∈ css, c.length ≤ 4 := fun y a b hy ha hb =>
        ⟨css ++ [[a, b]], hp.snoc hy, fun c hc => by
          rcases List.mem_append.mp hc with q | q
          · exact hv c q
          · rw [List.mem_singleton.mp q]
            intro l hl
            rcases List.mem_cons.mp hl with q | q
            · rw [q]; exact ha
            · rw [List.mem_singleton.mp q]; exact hb, by rw [List.length_append]; simp; (first | lia | omega), fun c hc => by
          rcases List.mem_append.mp hc with q | q
          · exact he c q
          · rw [List.mem_singleton.mp q]; show 2 ≤ 4; decide⟩
      have hc4 : i = 0 ∨ i = 1 ∨ i = 2 ∨ i = 3 := by (first | lia | omega)
      rcases hc4 with rfl | rfl | rfl | rfl
      · refine tail_any hlD.typeIs slot_list_getitem.lookup (wpAny_getItem_list (x := .ref D₀) hlD (by decide) (by decide) rfl ?_) rfl
        exact ⟨Same.of _ _ _, Keep.refl _, fin _ _ _ ⟨D₀, _, rfl, IsL.isList (N.get (.tail _ (.tail _ (.tail _ (.tail _ (.head _)))))), IntsAre.cons _ _ (IntsAre.cons _ _ IntsAre.nil)⟩ (val (by (first | lia | omega)) (by (first | lia | omega))) (val (by (first | lia | omega)) (by (first | lia | omega)))⟩
      · refine tail_any hlD.typeIs slot_list_getitem.lookup (wpAny_getItem_list (x := .ref D₁) hlD (by decide) (by decide) rfl ?_) rfl
        exact ⟨Same.of _ _ _, Keep.refl _, fin _ _ _ ⟨D₁, _, rfl, IsL.isList (N.get (.tail _ (.tail _ (.tail _ (.head _))))), IntsAre.cons _ _ (IntsAre.cons _ _ IntsAre.nil)⟩ (val (by (first | lia | omega)) (by (first | lia | omega))) (val (by (first | lia | omega)) (by (first | lia | omega)))⟩
      · refine tail_any hlD.typeIs slot_list_getitem.lookup (wpAny_getItem_list (x := .ref D₂) hlD (by decide) (by decide) rfl ?_) rfl
        exact ⟨Same.of _ _ _, Keep.refl _, fin _ _ _ ⟨D₂, _, rfl, IsL.isList (N.get (.tail _ (.tail _ (.head _)))), IntsAre.cons _ _ (IntsAre.cons _ _ IntsAre.nil)⟩ (val (by (first | lia | omega)) (by (first | lia | omega))) (val (by (first | lia | omega)) (by (first | lia | omega)))⟩
      · refine tail_any hlD.typeIs slot_list_getitem.lookup (wpAny_getItem_list (x := .ref D₃) hlD (by decide) (by decide) rfl ?_) rfl
        exact ⟨Same.of _ _ _, Keep.refl _, fin _ _ _ ⟨D₃, _, rfl, IsL.isList (N.get (.tail _ (.head _))), IntsAre.cons _ _ (IntsAre.cons _ _ IntsAre.nil)⟩ (val (by (first | lia | omega)) (by (first | lia | omega))) (val (by (first | lia | omega)) (by (first | lia | omega)))⟩
    · exact ⟨css, hp, hv, by (first | lia | omega), he⟩
  · rintro C D' ys s' hCD hC hD ⟨css, hp, hv, hle, he⟩ sm kp ⟨q, e⟩
    exact hQ₀ (.ret _) _ (ret _ css _ ((Same.of _ _ _).trans sm) (fun b o e => kp b o (F.keep b o e)) ⟨ys, IsL.isList e, hp.mono fun _ _ x => x.keep kp⟩ hv hle he)
end
end Mine
namespace Mine
section
variable {prog : Program} {w : World} {A : Around} {E : Value → Shared → Prop} {s : Shared} {p : Program} {loose : List Str} {mg mb : Str → Option Value}

theorem drawn_ok {Q : Value → Shared → Prop} {l : Addr} {vs : List Value} {ns : List Int} {n : Nat} {t : Tok}
    (G : Gd (hd.heap_39 w.params) p loose mg mb s.heap) (R : Room A 2) (hl : s.heap.IsList l vs.toArray) (hi : IntsAre vs ns) (hsz : ns.length ≤ 1000) (hn3 : n ≤ 3)
    (ret : ∀ D css s', Same s s' → Keep s.heap s'.heap → IsLL s'.heap D css → ValidCs n css → css.length ≤ 5 → (∀ c ∈ css, c.length ≤ 4) → Q (.ref D) s') :
    wpAny (model prog w) A (call (.ref 191) [.ref l, .int (n : Nat) t]) Q E s := by
  refine enterC (g := s.heap) (binds := [("script", .ref l), ("n", .int (n : Nat) t)]) G (Keep.refl _) (Nat.le_refl _) (by k_is) (by k_is) R.room (BindsTo.of_eq rfl) rfl (by decide +kernel) ?_ rfl rfl rfl
  intro L h tk cells F N Y hk hL
  refine hideQ (fun Q₀ hQ₀ => ?_)
  obtain ⟨oc, on, rfl, dc, dn⟩ := CellsAre.two (n := "c") (n' := "n") (c := L + 1 + 1) (c' := L + 1) Y
  replace dc : oc.data = .cell none := dc
  replace dn : on.data = .cell (some (.int (n : Nat) t)) := dn
  have cL : L + 1 + 1 ≠ L := (N (L + 1 + 1, oc) (.head _)).2.1
  have cg : s.heap.get? (L + 1 + 1) = none := (N (L + 1 + 1, oc) (.head _)).2.2
  have m0 : 0 ≤ (ns.getD 2 0).fmod 6 := fm0 _ (by decide)
  have m1 : (ns.getD 2 0).fmod 6 < 6 := fm1 _ (by decide)
  (repeat (first | with_reducible refine wpAny_execs_cons ?_ | with_reducible refine List_ ?_ | (with_reducible refine args_nil ?_) | ((with_reducible show wpAny _ _ (newList _) _ _ _); (refine z_newList F N ?_ (by size_fits)); clear F N; intro D h F N hDlt) | (with_reducible refine wpAny_Assign_Name ?_ (by with_unfolding_all rfl)) | ((with_reducible show wpAny _ _ (storeName _ _ _) _ _ _); (refine z_store F N ?_ rfl rfl; clear F N; intro h tk F N hg))))
  have nD : D ≠ L + 1 + 1 := Nat.ne_of_gt (hDlt _ (.head _))
  have nD' : D ≠ L + 1 := Nat.ne_of_gt (hDlt (L + 1, on) (.tail _ (.head _)))
  clear hDlt
  refine wpAny_For ?_ (fun _ => rfl)
  (repeat (first | with_reducible refine wpAny_BinOp ?_ | with_reducible refine z_int ?_ | ((with_reducible show wpAny _ _ (eval (Expr.Name _ _) _) _ _ _); (first | (refine nameX_L (v := _) F (by (repeat (first | with_reducible assumption | with_reducible exact up_eq _ _ _ | refine (up_ne (by decide)).trans ?_ | exact rfl))) ?_ rfl rfl (by decide)) | (refine nameX_C (c := _) (o := _) (v := _) N rfl (by k_mem) (by assumption) ?_ rfl rfl (by decide)) | (refine r_glob G F (by k_is) ?_ rfl rfl (by decide)) | (refine r_boot G F (by boot_fast) (by k_is) (by decide) ?_ rfl rfl (by decide)))) | (with_reducible refine args_cons ?_ rfl) | (with_reducible refine args_nil ?_) | ((with_reducible show Keep _ _ ∧ _); refine And.intro F.keep ?_) | ((with_reducible show wpAny _ _ (callWith _ (Value.ref _) [] _ []) _ _ _); refine r_callf G (by k_is) ?_ rfl rfl) | ((with_reducible show wpAny _ _ (callWith _ (Value.type _) [] _ []) _ _ _); refine Pv.callWith_type1 ?_ rfl rfl) | (with_reducible refine Call_ ?_ rfl)))
  refine cell_ok (i := 2) (G.keeps F.keep) ((R.less (by decide)).deeper _) (stays_list F.keep hl) hi hsz (by decide) (fun tc s₁ sm₁ kp₁ => ?_)
  replace F := F.keeps kp₁
  replace N := N.grown kp₁
  (repeat (first | with_reducible refine z_int ?_))
  refine z_mod (by decide) ?_
  obtain ⟨k, hk⟩ : ∃ k : Nat, (ns.getD 2 0).fmod 6 = k := ⟨((ns.getD 2 0).fmod 6).toNat, by (first | lia | omega)⟩
  rw [hk] at m0 m1 ⊢
  (repeat (first | (with_reducible refine args_nil ?_)))
  (refine z_range1 F N ?_; clear F N; intro r h tk t0 u0 v0 F N hr hkr)
  have hIL := ne_frame F
  have hIg := fresh_of F.keep
  have nI := news_ne N
  have iD : D ≠ h.objs.size := nI (D, _) (.head _)
  have ic : L + 1 + 1 ≠ h.objs.size := nI (L + 1 + 1, oc) (.tail _ (.head _))
  have iN : L + 1 ≠ h.objs.size := nI (L + 1, on) (.tail _ (.tail _ (.head _)))
  clear nI
  refine for_range (n := k) (fun i m s' => Same s s' ∧ m "script" = some (.ref l) ∧ m "rows" = some (.ref D) ∧ ∃ vR qR oc vc css, News s.heap L s'.heap [(D, listOf (List.toArray vR) qR), (L + 1 + 1, oc), (L + 1, on)] ∧ oc.data = .cell vc ∧
      Rows [h.objs.size, L, D, L + 1 + 1] s'.heap vR css ∧ ValidCs n css ∧ css.length ≤ i ∧ ∀ c ∈ css, c.length ≤ 4)
    R.handled hr (sm0 (n := k) (by (first | lia | omega))) (sz0 _) rfl rfl F ?_ ?_ ?_ ?_
  · intro h' tk' kp
    exact ⟨((Same.of s _ _).trans sm₁).set _ _, rfl, rfl, [], 0, oc, none, [], N.grown kp, dc, .nil, (by intro c hc; cases hc), Nat.le_refl _, (by intro c hc; cases hc)⟩
  · rintro i m s₁ h' tk' ⟨a, b, c, vR, qR, oc', vc, css, N', dc', rw', r⟩ kp
    refine ⟨a.set _ _, b, c, vR, qR, oc', vc, css, news_move N' (fun p hp => ?_) kp, dc', rw'.move (fun b o hb e => kp b o (fun q => hb (by simp [q])) (fun q => hb (by simp [q])) e), r⟩
    simp only [List.mem_cons, List.not_mem_nil, or_false] at hp
    rcases hp with q | q | q <;> rw [q]
    · exact iD
    · exact ic
    · exact iN
  · rintro i t' m s₂ E' hik ⟨hs₂, hm1, hm2, vR, qR, oc', vc, css, N', dc', rw', hval, hcl, hce⟩ F' ⟨oI, hoI⟩
    replace F := F'
    replace N := news_cons N' hoI hIL hIg
    clear F' N' hr hkr
    replace F : Fr s.heap L s₂.heap (up m "i" (.int (0 + (i : Nat)) t')) := F
    have e0 : (0 : Int) + (i : Nat) = (i : Nat) := by (first | lia | omega)
    rw [e0] at F
    obtain ⟨I, hI⟩ : ∃ I, I = h.objs.size := ⟨_, rfl⟩
    rw [← hI] at N hIL hIg iD ic iN hoI rw' ⊢
    refine hideQ (fun Q₁ hQ₁ => ?_)
    refine wpAny_execs_cons ?_
    refine wpAny_Assign_Name ?_ (by with_unfolding_all rfl)
    (repeat (first | with_reducible refine wpAny_BinOp ?_ | with_reducible refine z_int ?_ | with_reducible refine z_add ?_ | ((with_reducible show wpAny _ _ (eval (Expr.Name _ _) _) _ _ _); (first | (refine nameX_L (v := _) F (by (repeat (first | with_reducible assumption | with_reducible exact up_eq _ _ _ | refine (up_ne (by decide)).trans ?_ | exact rfl))) ?_ rfl rfl (by decide)) | (refine nameX_C (c := _) (o := _) (v := _) N rfl (by k_mem) (by assumption) ?_ rfl rfl (by decide)) | (refine r_glob G F (by k_is) ?_ rfl rfl (by decide)) | (refine r_boot G F (by boot_fast) (by k_is) (by decide) ?_ rfl rfl (by decide)))) | (with_reducible refine args_cons ?_ rfl) | (with_reducible refine args_nil ?_) | ((with_reducible show Keep _ _ ∧ _); refine And.intro F.keep ?_) | ((with_reducible show wpAny _ _ (callWith _ (Value.ref _) [] _ []) _ _ _); refine r_callf G (by k_is) ?_ rfl rfl) | (with_reducible refine Call_ ?_ rfl)))
    rw [show (3 : Int) + (i : Nat) = ((3 + i : Nat) : Int) by (first | lia | omega)]
    refine cell_ok (G.keeps F.keep) ((R.less (by decide)).deeper _) (stays_list F.keep hl) hi hsz (by (first | lia | omega)) (fun tc s₃ sm₃ kp₃ => ?_)
    replace F := F.keeps kp₃
    replace N := N.grown kp₃
    replace rw' := rw'.move (h' := s₃.heap) (fun b o _ e => kp₃ _ _ e)
    (repeat (first | with_reducible refine z_int ?_))
    refine z_mod (by decide) ?_
    have c0 : 0 ≤ (ns.getD (3 + i) 0).fmod 10000 := fm0 _ (by decide)
    generalize (ns.getD (3 + i) 0).fmod 10000 = c at *
    refine z_storeC F rfl (N.get (.tail _ (.tail _ (.head _)))) cL cg dc' (fun h o' F' ho' do' mv => ?_) rfl rfl
    replace N : News s.heap L h [(I, oI), (D, listOf (List.toArray vR) qR), (L + 1 + 1, o'), (L + 1, on)] :=
      news_cons (news_cons (news_cons (news_cons News.nil (mv _ _ (Nat.ne_of_lt (Nat.lt_succ_self _)) (N.get (.tail _ (.tail _ (.tail _ (.head _)))))) (Nat.succ_ne_self _) (N (L + 1, on) (.tail _ (.tail _ (.tail _ (.head _))))).2.2) ho' cL cg)
        (mv _ _ nD (N.get (.tail _ (.head _)))) (N (D, _) (.tail _ (.head _))).2.1 (N (D, _) (.tail _ (.head _))).2.2) (mv _ _ (Ne.symm ic) (N.get (.head _))) hIL hIg
    replace rw' := rw'.move (h' := h) (fun b o hb e => mv _ _ (fun q => hb (by simp [q])) e)
    replace F := F'
    clear F' mv ho'
    (repeat (first | with_reducible refine wpAny_execs_cons ?_ | with_reducible refine wpAny_BinOp ?_ | with_reducible refine z_int ?_ | ((with_reducible show wpAny _ _ (eval (Expr.Name _ _) _) _ _ _); (first | (refine nameX_L (v := _) F (by (repeat (first | with_reducible assumption | with_reducible exact up_eq _ _ _ | refine (up_ne (by decide)).trans ?_ | exact rfl))) ?_ rfl rfl (by decide)) | (refine nameX_C (c := _) (o := _) (v := _) N rfl (by k_mem) (by assumption) ?_ rfl rfl (by decide)) | (refine r_glob G F (by k_is) ?_ rfl rfl (by decide)) | (refine r_boot G F (by boot_fast) (by k_is) (by decide) ?_ rfl rfl (by decide)))) | (with_reducible refine wpAny_Assign_Name ?_ (by with_unfolding_all rfl))))
    refine z_mod (by decide) ?_
    have z0 : 0 ≤ c.fmod 8 := fm0 _ (by decide)
    have z1 : c.fmod 8 < 8 := fm1 _ (by decide)
    (repeat (first | with_reducible refine z_int ?_ | with_reducible refine z_add ?_))
    refine z_div (by decide) ?_ (Or.inl (PyProof.noPylong_small (by decide)))
    have z2 : 0 ≤ (c.fmod 8 + 2).fdiv 3 := by rw [Int.fdiv_eq_ediv_of_nonneg _ (by (first | lia | omega))]; (first | lia | omega)
    have z3 : (c.fmod 8 + 2).fdiv 3 ≤ 3 := by rw [Int.fdiv_eq_ediv_of_nonneg _ (by (first | lia | omega))]; (first | lia | omega)
    generalize (c.fmod 8 + 2).fdiv 3 = z at *
    refine z_storeB F N (fun h tk F' N' mv => ?_) rfl rfl
    replace rw' := rw'.move (h' := h) (fun b o hb e => mv _ _ (fun q => hb (by simp [q])) e)
    replace F := F'
    replace N := N'
    clear F' N' mv
    refine wpAny_execs_cons ?_
    refine wpAny_mono (Q := fun f s' => f = .next ∧ Same s s' ∧ ∃ (z : Nat) (tz : Tok) (m' : Str → Option Value), z ≤ 3 ∧ (n = 0 → z = 0) ∧ Fr s.heap L s'.heap m' ∧ m' "size" = some (.int (z : Nat) tz) ∧ m' "script" = some (.ref l) ∧ m' "rows" = some (.ref D) ∧
      News s.heap L s'.heap [(I, oI), (D, listOf (List.toArray vR) qR), (L + 1 + 1, o'), (L + 1, on)] ∧ Rows [I, L, D, L + 1 + 1] s'.heap vR css) ?_ ?_ fun _ _ e => e
    · refine hideQ (fun Q₂ hQ₂ => ?_)
      refine wpAny_If ?_
      (repeat (first | (with_reducible refine wpAny_isTrue_Compare1 ?_ (by with_unfolding_all rfl)) | with_reducible refine z_int ?_ | with_reducible refine eq_int ?_ | with_reducible refine wpAny_truthy_bool ?_ | ((with_reducible show wpAny _ _ (eval (Expr.Name _ _) _) _ _ _); (first | (refine nameX_L (v := _) F (by (repeat (first | with_reducible assumption | with_reducible exact up_eq _ _ _ | refine (up_ne (by decide)).trans ?_ | exact rfl))) ?_ rfl rfl (by decide)) | (refine nameX_C (c := _) (o := _) (v := _) N rfl (by k_mem) (by assumption) ?_ rfl rfl (by decide)) | (refine r_glob G F (by k_is) ?_ rfl rfl (by decide)) | (refine r_boot G F (by boot_fast) (by k_is) (by decide) ?_ rfl rfl (by decide))))))
      refine split_bool (fun hc => ?_) (fun hc => ?_)
      · refine wpAny_execs_cons ?_
        refine wpAny_Assign_Name ?_ (by with_unfolding_all rfl)
        refine z_int ?_
        refine z_storeB F N (fun h tk F' N' mv => ?_) rfl rfl
        refine wpAny_execs_nil ?_
        exact hQ₂ _ _ ⟨rfl, (((hs₂.set _ _).trans sm₃).set _ _), 0, _, _, by decide, fun _ => rfl, F', up_eq _ _ _, (up_ne (by decide)).trans ((up_ne (by decide)).trans ((up_ne (by decide)).trans hm1)), (up_ne (by decide)).trans ((up_ne (by decide)).trans ((up_ne (by decide)).trans hm2)), N', rw'.move (fun b o hb e => mv _ _ (fun q => hb (by simp [q])) e)⟩
      · refine wpAny_execs_nil ?_
        have hc' : n ≠ 0 := by simpa using hc
        have ez : ((z.toNat : Nat) : Int) = z := Int.toNat_of_nonneg z2
        exact hQ₂ _ _ ⟨rfl, (((hs₂.set _ _).trans sm₃).set _ _), z.toNat, _, _, by (first | lia | omega), fun q => absurd q hc', F, (by rw [ez]; exact up_eq _ _ _), (up_ne (by decide)).trans ((up_ne (by decide)).trans hm1), (up_ne (by decide)).trans ((up_ne (by decide)).trans hm2), N, rw'⟩
    · rintro f s₄ ⟨rfl, hs₄, z, tz, m', hz, hzn, F', hmz, hms, hmr, N', rw''⟩
      clear F N rw' z0 z1 z2 z3
      have F := F'
      have N := N'
      clear F' N'
      show wpAny _ _ _ _ _ _
      refine wpAny_execs_cons ?_
      refine wpAny_Expr ?_ (by with_unfolding_all rfl) (by with_unfolding_all rfl)
      refine MethodCall_ (pl := _) ?_ (by with_unfolding_all rfl)
      refine nameX_L (v := _) F hmr ?_ rfl rfl (by decide)
      refine Calls.getMethod_list_append (o := _) (N.get (.tail _ (.head _))) rfl rfl ?_
      refine callWith_method1 ?_ rfl rfl
      refine args_cons ?_ rfl
      refine comp_expr (cl := [("n", L + 1), ("c", L + 1 + 1)]) rfl (by decide) rfl (by decide) rfl ?_ (fun _ => rfl)
      (repeat (first | ((with_reducible show wpAny _ _ (eval (Expr.Name _ _) _) _ _ _); (first | (refine nameX_L (v := _) F (by (repeat (first | with_reducible assumption | with_reducible exact up_eq _ _ _ | refine (up_ne (by decide)).trans ?_ | exact rfl))) ?_ rfl rfl (by decide)) | (refine nameX_C (c := _) (o := _) (v := _) N rfl (by k_mem) (by assumption) ?_ rfl rfl (by decide)) | (refine r_glob G F (by k_is) ?_ rfl rfl (by decide)) | (refine r_boot G F (by boot_fast) (by k_is) (by decide) ?_ rfl rfl (by decide)))) | (with_reducible refine args_cons ?_ rfl) | (with_reducible refine args_nil ?_) | ((with_reducible show wpAny _ _ (callWith _ (Value.type _) [] _ []) _ _ _); refine Pv.callWith_type1 ?_ rfl rfl) | (with_reducible refine Call_ ?_ rfl)))
      (refine z_range1 F N ?_; clear F N; intro r h tk t0 u0 v0 F N hr hkr)
      refine wpAny_mono (src_range (n := z) (show A.handled = none from R.handled) hr (sm0 (n := z) (Nat.le_trans hz (by decide))) (sz0 _)) (fun it s₅ hit => ?_) fun _ _ e => e
      refine compIn_v hit (Nat.le_trans hz (by decide)) (fun i ys => ∃ cl, IntsAre ys cl ∧ ValidC n cl ∧ cl.length ≤ i) ⟨[], .nil, (by intro c hc; cases hc), Nat.le_refl _⟩ ?_ ?_
      · rintro C j ys v s₆ m₆ E₆ hj ⟨tj, rfl⟩ ⟨cl, hys, hv, hle⟩ sm₆ kp₆ hn₆ hm₆
        have dc₁ : s₆.heap.IsCell (L + 1 + 1) (some (.int c _)) := ⟨o', kp₆ _ _ (N.get (.tail _ (.tail _ (.head _)))), do'⟩
        have dc₂ : s₆.heap.IsCell (L + 1) (some (.int (n : Nat) t)) := ⟨on, kp₆ _ _ (N.get (.tail _ (.tail _ (.tail _ (.head _))))), dn⟩
        have G₆ := G.keeps (fun b o e => kp₆ b o (F.keep b o e))
        have hj3 : j = 0 ∨ j = 1 ∨ j = 2 := by (first | lia | omega)
        have hn1 : 1 ≤ n := by
          rcases Nat.eq_zero_or_pos n with q | q
          · have := hzn q; (first | lia | omega)
          · exact q
        have e0 : (0 : Int) + (j : Nat) = (j : Nat) := by (first | lia | omega)
        rw [e0] at hm₆
        have hpw : (6 : Int) ^ ((j : Nat) : Int).toNat = ((6 ^ j : Nat) : Int) := by simp
        have hp1 : (1 : Nat) ≤ 6 ^ j := Nat.one_le_pow _ _ (by decide)
        have hp2 : (6 : Nat) ^ j ≤ 36 := by rcases hj3 with rfl | rfl | rfl <;> decide
        refine tests_nil ?_
        refine ⟨Same.refl _, Keep.refl _, ?_⟩
        simp only [if_true]
        refine Call_ ?_ rfl
        refine e_glob G₆ (by k_is) ?_ rfl rfl rfl (by decide)
        refine r_callf G₆ (by k_is) ?_ rfl rfl
        refine args_cons ?_ rfl
        refine wpAny_BinOp ?_
        refine e_cell (c := L + 1 + 1) rfl dc₁ ?_ rfl rfl (by decide)
        refine wpAny_BinOp ?_
        refine z_int ?_
        refine wpAny_BinOp ?_
        refine z_int ?_
        refine e_local hn₆ hm₆ ?_ rfl rfl (by decide)
        refine z_pow (by (first | lia | omega)) (by (first | lia | omega)) (by decide) ?_
        rw [hpw]
        generalize (6 : Nat) ^ j = pw at *
        refine z_mul ?_ (by mul_fits)
        refine z_div (by (first | lia | omega)) ?_ (Or.inl (PyProof.noPylong_small (by (first | lia | omega))))
        refine args_cons ?_ rfl
        refine e_cell (c := L + 1) rfl dc₂ ?_ rfl rfl (by decide)
        refine args_nil ?_
        refine ⟨fun _ _ e => e, ?_⟩
        refine literal_ok G₆ ((R.less (by decide)).deeper _) hn1 hn3 (fun x tx s₇ sm₇ kp₇ hvx => ?_)
        refine ⟨(Same.of _ _ _).trans sm₇, kp₇, cl ++ [x], IntsAre.append hys (IntsAre.cons _ _ IntsAre.nil), fun y hy => ?_, by rw [List.length_append]; simp; (first | lia | omega)⟩
        rcases List.mem_append.mp hy with q | q
        · exact hv y q
        · rw [List.mem_singleton.mp q]; exact hvx
      · rintro C T ys s₆ hCD hC hD ⟨cl, hys, hv, hle⟩ sm₆ kp₆ ⟨qT, eT⟩
        have eI := hoI
        have hTn : T ∉ [I, L, D, L + 1 + 1] := by
          have key : ∀ {b : Addr}, b < h.objs.size → T ≠ b := fun hb => Nat.ne_of_gt (Nat.lt_trans hb hD)
          simp only [List.mem_cons, List.not_mem_nil, or_false, not_or]
          exact ⟨key (Heap.lt_size (N.get (.head _))), key F.ns.lt, key (Heap.lt_size (N.get (.tail _ (.head _)))), key (Heap.lt_size (N.get (.tail _ (.tail _ (.head _)))))⟩
        replace rw'' := rw''.move (h' := s₆.heap) (fun b o _ e => kp₆ _ _ (hkr _ _ e))
        replace F := F.keeps kp₆
        replace N := N.grown kp₆
        have hT5 := hTn
        simp only [List.mem_cons, List.not_mem_nil, or_false, not_or] at hT5
        refine args_nil ?_
        refine z_append F N (Upd.tail (Ne.symm iD) (Upd.head (by simp only [List.mem_cons, List.not_mem_nil, or_false]; rintro q (q' | q') <;> subst q' <;> first | exact Ne.symm nD | exact Ne.symm nD'))) (by rw [Paired.length rw'']; (first | lia | omega)) (fun h₇ F N sb => ?_)
        show wpAny _ _ _ _ _ _
        (repeat (first | with_reducible refine wpAny_execs_nil ?_))
        refine hQ₁ .next _ ⟨m', F, news_at N (.head _) hoI, (hs₄.set _ _).trans (sm₆.set _ _), hms, hmr, vR ++ [.ref T], qR + 1, o', _, css ++ [cl], news_sub N (fun p hp => List.mem_cons_of_mem _ hp), do', Paired.snoc (rw''.move (fun b o hb e => sb.extBut b o (fun q => hb (by simp [q])) e)) ⟨T, ys, rfl, hTn, (IsL.isList eT).at (fun o e => sb.extBut T o hT5.2.2.1 e), hys⟩, fun c' hc' => ?_, by rw [List.length_append]; simp; (first | lia | omega), fun c' hc' => ?_⟩
        · rcases List.mem_append.mp hc' with q | q
          · exact hval c' q
          · rw [List.mem_singleton.mp q]; exact hv
        · rcases List.mem_append.mp hc' with q | q
          · exact hce c' q
          · rw [List.mem_singleton.mp q]; (first | lia | omega)
  · rintro m s₂ ⟨hs₂, hm1, hm2, vR, qR, oc', vc, css, N', dc', rw', hval, hcl, hce⟩ F
    have N := N'
    show wpAny _ _ _ _ _ _
    (repeat (first | with_reducible refine wpAny_execs_cons ?_ | with_reducible refine wpAny_Return_some ?_ | ((with_reducible show wpAny _ _ (eval (Expr.Name _ _) _) _ _ _); (first | (refine nameX_L (v := _) F (by (repeat (first | with_reducible assumption | with_reducible exact up_eq _ _ _ | refine (up_ne (by decide)).trans ?_ | exact rfl))) ?_ rfl rfl (by decide)) | (refine nameX_C (c := _) (o := _) (v := _) N rfl (by k_mem) (by assumption) ?_ rfl rfl (by decide)) | (refine r_glob G F (by k_is) ?_ rfl rfl (by decide)) | (refine r_boot G F (by boot_fast) (by k_is) (by decide) ?_ rfl rfl (by decide))))))
    exact hQ₀ (.ret _) _ (ret _ css _ (hs₂.set _ _) F.keep ⟨vR, IsL.isList (N.get (.head _)), rw'.paired⟩ hval (by (first | lia | omega)) hce)
end
end Mine
namespace Mine
section
variable {prog : Program} {w : World} {A : Around} {E : Value → Shared → Prop} {s : Shared} {p : Program} {loose : List Str} {mg mb : Str → Option Value}

theorem ints_one {x y : Int} {t : Tok} (h : x = y) : IntsAre [.int x t] [y] := by subst h; exact IntsAre.cons _ _ IntsAre.nil
theorem truth_elt {i k z : Nat} (hz : k / 2 ^ i % 2 = z) : ((1 : Int) + (i : Nat)) * (2 * (z : Nat) - 1) = ((i : Int) + 1) * (2 * ((k / 2 ^ i % 2 : Nat) : Int) - 1) := by
  rw [hz, Int.add_comm 1 (i : Int)]
theorem truths_snoc {ys : List Value} {i k z : Nat} {t : Tok} (h : IntsAre ys ((List.range i).map fun (i : Nat) => ((i : Int) + 1) * (2 * ((k / 2 ^ i % 2 : Nat) : Int) - 1))) (hz : k / 2 ^ i % 2 = z) :
    IntsAre (ys ++ [.int (((1 : Int) + (i : Nat)) * (2 * (z : Nat) - 1)) t]) ((List.range (i + 1)).map fun (i : Nat) => ((i : Int) + 1) * (2 * ((k / 2 ^ i % 2 : Nat) : Int) - 1)) := by
  rw [List.range_succ, List.map_append]
  exact IntsAre.append h (ints_one (truth_elt hz))
theorem holds_eq (css : List (List Int)) (n k : Nat) : lawHolds css n k = css.all fun c => c.any fun l => ((List.range n).map fun (i : Nat) => ((i : Int) + 1) * (2 * ((k / 2 ^ i % 2 : Nat) : Int) - 1)).any (· == l) := by
  unfold lawHolds truthsOf
  congr 1
  funext c
  congr 1
  funext l
  rw [List.contains_eq_any_beq]
  congr 1
  funext x
  exact BEq.comm
abbrev hPos : Pos := ⟨160, 15, 160, 77⟩
theorem holds_ok {Q : Value → Shared → Prop} {Av : Addr → Prop} {a bm : Addr} {ob : Obj} {css : List (List Int)} {n k : Nat} {t u : Tok}
    (G : Gd (hd.heap_39 w.params) p loose mg mb s.heap) (R : Room A 3) (B : BMod s.heap mainGlobals mg bm ob) (hzs : ∀ x, @LE.le Nat _ s.heap.objs.size x → Av x) (H : HInv Av hPos 200 198 s.heap) (hcs : IsLL s.heap a css) (hn3 : n ≤ 3) (hk8 : k < 8)
    (ret : ∀ s', KeepT s.heap s'.heap → (∀ b o, ¬ Av b → b ≠ 198 → s.heap.get? b = some o → s'.heap.get? b = some o) → MoreGens s.gens s'.gens → s'.drawn = s.drawn → s'.os = s.os → HInv Av hPos 200 198 s'.heap → Q (.bool (lawHolds css n k)) s') :
    wpAny (model prog w) A (call (.ref 201) [.ref a, .int (n : Nat) t, .int (k : Nat) u]) Q E s := by
  obtain ⟨cvs, hca, hcp⟩ := hcs
  refine enterC (g := s.heap) (binds := [("clauses", .ref a), ("n", .int (n : Nat) t), ("k", .int (k : Nat) u)]) G (Keep.refl _) (Nat.le_refl _) (by k_is) (by k_is) R.room (BindsTo.of_eq rfl) rfl (by decide +kernel) ?_ rfl rfl rfl
  intro L h tk cells F N Y hk hL
  obtain ⟨o₁, o₂, rfl, d₁, d₂⟩ := CellsAre.two (n := "truths") (n' := "k") (c := L + 1 + 1) (c' := L + 1) Y
  replace d₁ : o₁.data = .cell none := d₁
  replace d₂ : o₂.data = .cell (some (.int (k : Nat) u)) := d₂
  have cL : L + 1 + 1 ≠ L := (N (L + 1 + 1, o₁) (.head _)).2.1
  refine wpAny_execs_cons ?_
  refine wpAny_Assign_Name ?_ (by with_unfolding_all rfl)
  refine comp_expr (cl := [("k", L + 1)]) rfl (by decide) rfl (by decide) rfl ?_ (fun _ => rfl)
  (repeat (first | with_reducible refine wpAny_BinOp ?_ | with_reducible refine z_int ?_ | with_reducible refine z_add ?_ | ((with_reducible show wpAny _ _ (eval (Expr.Name _ _) _) _ _ _); (first | (refine nameX_L (v := _) F (by (repeat (first | with_reducible assumption | with_reducible exact up_eq _ _ _ | refine (up_ne (by decide)).trans ?_ | exact rfl))) ?_ rfl rfl (by decide)) | (refine nameX_C (c := _) (o := _) (v := _) N rfl (by k_mem) (by assumption) ?_ rfl rfl (by decide)) | (refine r_glob G F (by k_is) ?_ rfl rfl (by decide)) | (refine r_boot G F (by boot_fast) (by k_is) (by decide) ?_ rfl rfl (by decide)))) | (with_reducible refine args_cons ?_ rfl) | (with_reducible refine args_nil ?_) | ((with_reducible show wpAny _ _ (callWith _ (Value.type _) [] _ []) _ _ _); refine Pv.callWith_type1 ?_ rfl rfl) | (with_reducible refine Call_ ?_ rfl)))
  (refine z_range2 F N ?_; clear F N; intro r h tk t0 u0 v0 F N hr hkr)
  refine wpAny_mono (src_range (n := n) (show A.handled = none from R.handled) hr (sm1 (Nat.le_trans hn3 (by decide))) (sz1 n)) (fun it s₂ hit => ?_) fun _ _ e => e
  refine compIn_v hit (Nat.le_trans hn3 (by decide)) (fun i ys => IntsAre ys ((List.range i).map fun (i : Nat) => ((i : Int) + 1) * (2 * ((k / 2 ^ i % 2 : Nat) : Int) - 1))) IntsAre.nil ?_ ?_
  · rintro C i ys v s₃ m₃ E' hi' ⟨tv, rfl⟩ hys sm kp hn₃ hm₃
    have dk : s₃.heap.IsCell (L + 1) (some (.int (k : Nat) u)) := ⟨o₂, kp _ _ (N.get (.tail _ (.head _))), d₂⟩
    have hp1 : (1 : Nat) ≤ 2 ^ i := Nat.one_le_pow _ _ (by decide)
    have hp2 : (2 : Nat) ^ i ≤ 8 := by
      have : (2 : Nat) ^ i ≤ 2 ^ 3 := Nat.pow_le_pow_right (by decide) (by (first | lia | omega))
      (first | lia | omega)
    refine tests_nil ?_
    refine ⟨Same.refl _, Keep.refl _, ?_⟩
    simp only [if_true]
    refine wpAny_BinOp ?_
    refine e_local hn₃ hm₃ ?_ rfl rfl (by decide)
    refine wpAny_BinOp ?_
    refine wpAny_BinOp ?_
    refine z_int ?_
    refine wpAny_BinOp ?_
    refine wpAny_BinOp ?_
    refine e_cell (c := L + 1) rfl dk ?_ rfl rfl (by decide)
    refine wpAny_BinOp ?_
    refine z_int ?_
    refine wpAny_BinOp ?_
    refine e_local hn₃ hm₃ ?_ rfl rfl (by decide)
    refine z_int ?_
    refine z_sub ?_
    refine z_pow (by (first | lia | omega)) (by (first | lia | omega)) (by decide) ?_
    have hpw : (2 : Int) ^ ((1 : Int) + (i : Nat) - 1).toNat = ((2 ^ i : Nat) : Int) := by
      have : ((1 : Int) + (i : Nat) - 1).toNat = i := by (first | lia | omega)
      rw [this]; simp
    rw [hpw]
    refine z_div (by (first | lia | omega)) ?_ (Or.inl (PyProof.noPylong_small (by (first | lia | omega))))
    refine z_int ?_
    refine z_mod (by decide) ?_
    have hdm : (Int.fdiv ((k : Nat) : Int) ((2 ^ i : Nat) : Int)).fmod 2 = ((k / 2 ^ i % 2 : Nat) : Int) := by
      rw [Int.fmod_eq_emod_of_nonneg _ (by (first | lia | omega)), Int.fdiv_eq_ediv_of_nonneg _ (by (first | lia | omega))]; rfl
    rw [hdm]
    have hb2 : k / 2 ^ i % 2 < 2 := Nat.mod_lt _ (by decide)
    obtain ⟨z, hz⟩ : ∃ z, k / 2 ^ i % 2 = z := ⟨_, rfl⟩
    rw [hz] at hb2 ⊢
    refine z_mul ?_ (by mul_fits)
    refine z_int ?_
    refine z_sub ?_
    refine z_mul ?_ (by mul_fits)
    exact ⟨Same.of _ _ _, Keep.refl _, truths_snoc hys hz⟩
  · intro C D ys s' hCD hC hD hys sm kp hpl
    obtain ⟨qD, eD⟩ := hpl
    have nDc : D ≠ L + 1 + 1 := Nat.ne_of_gt (Nat.lt_trans (Heap.lt_size (N.get (.head _))) hD)
    replace F := F.keeps kp
    replace N := N.grown kp
    refine z_storeC F rfl (N.get (.head _)) cL (N (L + 1 + 1, o₁) (.head _)).2.2 d₁ (fun h₅ o' F' ho' do' mv => ?_) rfl rfl
    have kp₅ : Keep s.heap h₅ := F'.keep
    have hzs' : ∀ x, @LE.le Nat _ h₅.objs.size x → Av x := fun x hx => hzs x (Nat.le_trans (Nat.le_trans F'.above (Nat.le_of_lt F'.ns.lt)) hx)
    have eD₅ := mv _ _ nDc eD
    replace F := F'
    clear F' N mv
    refine wpAny_execs_cons ?_
    refine wpAny_Return_some ?_
    refine nest_ok (xl := "lit") (xc := "clause") (tn := "truths") (xs := "clauses") (c₀ := 200) (P₀ := 198) (ct := L + 1 + 1) (dt := D) (a := a) rfl rfl (fun Q hQ => ?_) (fun Q hQ => ?_) rfl rfl (by decide) rfl rfl rfl rfl (by decide) rfl (fun _ _ => rfl) (by decide) rfl rfl rfl rfl (by decide) (by decide) (by decide) (by with_unfolding_all rfl) rfl
      (G.keeps kp₅) (by k_is) (B.keeps kp₅) hzs' (H.keep kp₅) (stays_list kp₅ hca) (hcp.mono fun _ _ x => x.keep kp₅) ⟨o', ho', do'⟩ (IsL.isList eD₅) hys R.handled ?_ (fun s₆ kt kz mg' hdr hos H' => ?_)
    · exact r_boot (G.keeps (Keep.refl _)) F (by boot_fast) (by k_is) (by decide) hQ rfl rfl (by decide)
    · exact nameX_L (v := .ref a) F (by (repeat (first | with_reducible assumption | with_reducible exact up_eq _ _ _ | refine (up_ne (by decide)).trans ?_ | exact rfl))) hQ rfl rfl (by decide)
    · have := R.depth
      show A.depth + 1 + 1 < recursionLimit
      (first | lia | omega)
    · rw [holds_eq] at ret
      exact ret s₆ ((KeepT.of kp₅).trans kt) (fun b o hb hP e => kz b o hb hP (kp₅ _ _ e)) (by
        have e : s'.gens = s.gens := sm.gens
        have m2 : MoreGens s'.gens s₆.gens := mg'
        rw [e] at m2; exact m2) (hdr.trans sm.drawn) (hos.trans sm.os) H'
end
end Mine
namespace Mine
section
variable {prog : Program} {w : World} {A : Around} {E : Value → Shared → Prop} {s : Shared} {p : Program} {loose : List Str} {mg mb : Str → Option Value}

theorem law_ok {R : Result → Shared → Prop} {l bm : Addr} {ob : Obj} {vs : List Value} {ns : List Int}
    (G : Gd (hd.heap_39 w.params) p loose mg mb s.heap) (Rm : Room A 12) (B : BMod s.heap mainGlobals mg bm ob) (hd₀ : CodeHd s.heap 200 198) (ht₀ : s.heap.get? 198 = some (tabObj #[]))
    (hl : s.heap.IsList l vs.toArray) (hi : IntsAre vs ns) (hsz : ns.length ≤ 63)
    (ret : ∀ s', RelT s.heap.objs.size 198 s s' → (∃ ps, s'.heap.get? 198 = some (tabObj ps)) → R (.ok (.ret (.bool true))) s') :
    codeAny (model prog w) A (.call (.ref 206) ⟨[.ref l], []⟩) R s := by
  have kt₀ : KeepT s.heap (hideAll s.heap [198]) := fun b o e hn => hideAll_get _ e (fun q => by rw [List.mem_singleton.mp q, ht₀] at e; cases e; exact hn _ rfl)
  have G₀ := G.keepT kt₀ rfl
  have HI : HInv (fun b => @LE.le Nat _ s.heap.objs.size b) hPos 200 198 s.heap := HInv.first hd₀ ht₀
  have l₀ : @LT.lt Nat _ 198 s.heap.objs.size := Heap.lt_size ht₀
  have l₁ : @LT.lt Nat _ 200 s.heap.objs.size := hdLt hd₀
  have hl₀ := kt₀.list hl
  have B₀ := kt₀.bmod B
  refine enterCodeC (g := hideAll s.heap [198]) (binds := [("script", .ref l)]) G₀ (keep_hide _) (Nat.le_of_eq (hideAll_size _ _)) (by k_is) (by k_is) Rm.room (BindsTo.of_eq rfl) rfl (by decide +kernel) ?_ rfl rfl rfl
  intro L h tk cells F N Y hk hL
  obtain ⟨ob₁, on, rfl, db, dn⟩ := CellsAre.two (n := "before") (n' := "n") (c := L + 1 + 1) (c' := L + 1) Y
  replace db : ob₁.data = .cell none := db
  replace dn : on.data = .cell none := dn
  have cbL : L + 1 + 1 ≠ L := (N (L + 1 + 1, ob₁) (.head _)).2.1
  have cbg : (hideAll s.heap [198]).get? (L + 1 + 1) = none := (N (L + 1 + 1, ob₁) (.head _)).2.2
  have cnL : L + 1 ≠ L := (N (L + 1, on) (.tail _ (.head _))).2.1
  have cng : (hideAll s.heap [198]).get? (L + 1) = none := (N (L + 1, on) (.tail _ (.head _))).2.2
  have m0 : 0 ≤ (ns.getD 0 0).fmod 4 := fm0 _ (by decide)
  have m1 : (ns.getD 0 0).fmod 4 < 4 := fm1 _ (by decide)
  refine wpAny_execs_cons ?_
  refine wpAny_Assign_Name ?_ (by with_unfolding_all rfl)
  have G := G₀
  (repeat (first | with_reducible refine wpAny_BinOp ?_ | with_reducible refine z_int ?_ | ((with_reducible show wpAny _ _ (eval (Expr.Name _ _) _) _ _ _); (first | (refine nameX_L (v := _) F (by (repeat (first | with_reducible assumption | with_reducible exact up_eq _ _ _ | refine (up_ne (by decide)).trans ?_ | exact rfl))) ?_ rfl rfl (by decide)) | (refine nameX_C (c := _) (o := _) (v := _) N rfl (by k_mem) (by assumption) ?_ rfl rfl (by decide)) | (refine r_glob G F (by k_is) ?_ rfl rfl (by decide)) | (refine r_boot G F (by boot_fast) (by k_is) (by decide) ?_ rfl rfl (by decide)))) | (with_reducible refine args_cons ?_ rfl) | (with_reducible refine args_nil ?_) | ((with_reducible show Keep _ _ ∧ _); refine And.intro F.keep ?_) | ((with_reducible show wpAny _ _ (callWith _ (Value.ref _) [] _ []) _ _ _); refine r_callf G (by k_is) ?_ rfl rfl) | (with_reducible refine Call_ ?_ rfl)))
  refine cell_ok (i := 0) (G.keeps F.keep) ((Rm.less (by decide)).deeper _) (stays_list F.keep hl₀) hi (by (first | lia | omega)) (by decide) (fun tc s₁ sm₁ kp₁ => ?_)
  (repeat (first | with_reducible refine z_int ?_))
  refine z_mod (by decide) ?_
  obtain ⟨n, hn⟩ : ∃ n : Nat, (ns.getD 0 0).fmod 4 = n := ⟨((ns.getD 0 0).fmod 4).toNat, by (first | lia | omega)⟩
  rw [hn] at m0 m1 ⊢
  have hn3 : n ≤ 3 := by (first | lia | omega)
  have r₁ : RelT s.heap.objs.size 198 s s₁ := RelT.of ((Same.of s _ _).trans sm₁) (hk.trans kp₁)
  replace HI := HI.keep (hk.trans kp₁)
  replace F := F.keeps kp₁
  replace N := N.grown kp₁
  refine z_storeC F rfl (N.get (.tail _ (.head _))) cnL cng dn (fun h o' F' ho' do' mv => ?_) rfl rfl
  have T₁ := turn_cell (N.get (.tail _ (.head _))) dn mv
  replace HI := T₁.hinv HI
  have hzL : @LE.le Nat _ s.heap.objs.size L := hL
  have r₂ := r₁.turn (tk := s₁.toks + 1) (Nat.le_succ_of_le hzL) mv
  replace N : News (hideAll s.heap [198]) L h [(L + 1 + 1, ob₁), (L + 1, o')] :=
    news_cons (news_cons News.nil ho' cnL cng) (mv _ _ (Nat.ne_of_gt (Nat.lt_succ_self _)) (N.get (.head _))) cbL cbg
  replace F := F'
  clear F' mv T₁ ho'
  generalize hgg : hideAll s.heap [198] = g at *
  refine hideQ (fun Q₀ hQ₀ => ?_)
  refine wpAny_execs_cons ?_
  refine wpAny_mono (Q := fun f s' => f = .next ∧ RelT s.heap.objs.size 198 s s' ∧ HInv (fun b => @LE.le Nat _ s.heap.objs.size b) hPos 200 198 s'.heap ∧ ∃ (a : Addr) (css : List (List Int)) (m' : Str → Option Value), Fr g L s'.heap m' ∧ m' "clauses" = some (.ref a) ∧
    News g L s'.heap [(L + 1 + 1, ob₁), (L + 1, o')] ∧ IsLL s'.heap a css ∧ ValidCs n css ∧ css.length ≤ 5 ∧ ∀ c ∈ css, c.length ≤ 4) ?_ ?_ fun _ _ e => e
  · refine hideQ (fun Q₁ hQ₁ => ?_)
    refine wpAny_If ?_
    (repeat (first | (with_reducible refine wpAny_isTrue_Compare1 ?_ (by with_unfolding_all rfl)) | with_reducible refine isTrue_and ?_ | with_reducible refine z_int ?_ | with_reducible refine P.ge_int ?_ | with_reducible refine wpAny_truthy_bool ?_ | ((with_reducible show wpAny _ _ (eval (Expr.Name _ _) _) _ _ _); (first | (refine nameX_L (v := _) F (by (repeat (first | with_reducible assumption | with_reducible exact up_eq _ _ _ | refine (up_ne (by decide)).trans ?_ | exact rfl))) ?_ rfl rfl (by decide)) | (refine nameX_C (c := _) (o := _) (v := _) N rfl (by k_mem) (by assumption) ?_ rfl rfl (by decide)) | (refine r_glob G F (by k_is) ?_ rfl rfl (by decide)) | (refine r_boot G F (by boot_fast) (by k_is) (by decide) ?_ rfl rfl (by decide))))))
    refine split_bool (fun hc => ?_) (fun hc => ?_)
    · have hn2 : 2 ≤ n := by
        have : ((n : Nat) : Int) ≥ 2 := by simpa using hc
        (first | lia | omega)
      (repeat (first | (with_reducible refine wpAny_isTrue_Compare1 ?_ (by with_unfolding_all rfl)) | with_reducible refine isTrue_and ?_ | with_reducible refine wpAny_BinOp ?_ | with_reducible refine z_int ?_ | ((with_reducible show wpAny _ _ (eval (Expr.Name _ _) _) _ _ _); (first | (refine nameX_L (v := _) F (by (repeat (first | with_reducible assumption | with_reducible exact up_eq _ _ _ | refine (up_ne (by decide)).trans ?_ | exact rfl))) ?_ rfl rfl (by decide)) | (refine nameX_C (c := _) (o := _) (v := _) N rfl (by k_mem) (by assumption) ?_ rfl rfl (by decide)) | (refine r_glob G F (by k_is) ?_ rfl rfl (by decide)) | (refine r_boot G F (by boot_fast) (by k_is) (by decide) ?_ rfl rfl (by decide)))) | (with_reducible refine args_cons ?_ rfl) | (with_reducible refine args_nil ?_) | ((with_reducible show Keep _ _ ∧ _); refine And.intro F.keep ?_) | ((with_reducible show wpAny _ _ (callWith _ (Value.ref _) [] _ []) _ _ _); refine r_callf G (by k_is) ?_ rfl rfl) | (with_reducible refine Call_ ?_ rfl)))
      refine cell_ok (i := 1) (G.keeps F.keep) ((Rm.less (by decide)).deeper _) (stays_list F.keep hl₀) hi (by (first | lia | omega)) (by decide) (fun tc s₃ sm₃ kp₃ => ?_)
      replace F := F.keeps kp₃
      replace N := N.grown kp₃
      have r₃ : RelT s.heap.objs.size 198 s s₃ := r₂.trans (RelT.of ((Same.of _ _ _).trans sm₃) kp₃)
      have HI₃ := HI.keep kp₃
      (repeat (first | with_reducible refine z_int ?_))
      refine z_mod (by decide) ?_
      (repeat (first | with_reducible refine z_int ?_ | with_reducible refine eq_int ?_ | with_reducible refine wpAny_truthy_bool ?_))
      refine split_bool (fun hc' => ?_) (fun hc' => ?_)
      · refine isTrue_and_nil ?_
        refine wpAny_execs_cons ?_
        refine wpAny_Assign_Name ?_ (by with_unfolding_all rfl)
        (repeat (first | with_reducible refine wpAny_BinOp ?_ | with_reducible refine z_int ?_ | ((with_reducible show wpAny _ _ (eval (Expr.Name _ _) _) _ _ _); (first | (refine nameX_L (v := _) F (by (repeat (first | with_reducible assumption | with_reducible exact up_eq _ _ _ | refine (up_ne (by decide)).trans ?_ | exact rfl))) ?_ rfl rfl (by decide)) | (refine nameX_C (c := _) (o := _) (v := _) N rfl (by k_mem) (by assumption) ?_ rfl rfl (by decide)) | (refine r_glob G F (by k_is) ?_ rfl rfl (by decide)) | (refine r_boot G F (by boot_fast) (by k_is) (by decide) ?_ rfl rfl (by decide)))) | (with_reducible refine args_cons ?_ rfl) | (with_reducible refine args_nil ?_) | ((with_reducible show Keep _ _ ∧ _); refine And.intro F.keep ?_) | ((with_reducible show wpAny _ _ (callWith _ (Value.ref _) [] _ []) _ _ _); refine r_callf G (by k_is) ?_ rfl rfl) | (with_reducible refine Call_ ?_ rfl)))
        refine cell_ok (i := 2) (G.keeps F.keep) ((Rm.less (by decide)).deeper _) (stays_list F.keep hl₀) hi (by (first | lia | omega)) (by decide) (fun tc s₄ sm₄ kp₄ => ?_)
        replace F := F.keeps kp₄
        replace N := N.grown kp₄
        have r₄ : RelT s.heap.objs.size 198 s s₄ := r₃.trans (RelT.of ((Same.of _ _ _).trans sm₄) kp₄)
        have HI₄ := HI₃.keep kp₄
        (repeat (first | with_reducible refine z_int ?_))
        refine z_mod (by decide) ?_
        (repeat (first | (with_reducible refine args_nil ?_) | ((with_reducible show Keep _ _ ∧ _); refine And.intro F.keep ?_)))
        refine square_ok (G.keeps F.keep) ((Rm.less (by decide)).deeper _) hn2 hn3 (fun aC css s₅ sm₅ kp₅ hcs hv hln hea => ?_)
        replace F := F.keeps kp₅
        replace N := N.grown kp₅
        have r₅ : RelT s.heap.objs.size 198 s s₅ := r₄.trans (RelT.of ((Same.of _ _ _).trans sm₅) kp₅)
        have HI₅ := HI₄.keep kp₅
        refine z_storeB F N (fun h tk F' N' mv => ?_) rfl rfl
        have T₂ := turn_ns F.ns mv
        refine wpAny_execs_nil ?_
        exact hQ₁ _ _ ⟨rfl, r₅.turn hzL mv, T₂.hinv HI₅, aC, css, _, F', up_eq _ _ _, N', T₂.ll hcs, hv, by (first | lia | omega), hea⟩
      · refine wpAny_execs_cons ?_
        refine wpAny_Assign_Name ?_ (by with_unfolding_all rfl)
        (repeat (first | ((with_reducible show wpAny _ _ (eval (Expr.Name _ _) _) _ _ _); (first | (refine nameX_L (v := _) F (by (repeat (first | with_reducible assumption | with_reducible exact up_eq _ _ _ | refine (up_ne (by decide)).trans ?_ | exact rfl))) ?_ rfl rfl (by decide)) | (refine nameX_C (c := _) (o := _) (v := _) N rfl (by k_mem) (by assumption) ?_ rfl rfl (by decide)) | (refine r_glob G F (by k_is) ?_ rfl rfl (by decide)) | (refine r_boot G F (by boot_fast) (by k_is) (by decide) ?_ rfl rfl (by decide)))) | (with_reducible refine args_cons ?_ rfl) | (with_reducible refine args_nil ?_) | ((with_reducible show Keep _ _ ∧ _); refine And.intro F.keep ?_) | ((with_reducible show wpAny _ _ (callWith _ (Value.ref _) [] _ []) _ _ _); refine r_callf G (by k_is) ?_ rfl rfl) | (with_reducible refine Call_ ?_ rfl)))
        refine drawn_ok (G.keeps F.keep) ((Rm.less (by decide)).deeper _) (stays_list F.keep hl₀) hi (by (first | lia | omega)) hn3 (fun aC css s₅ sm₅ kp₅ hcs hv hln hea => ?_)
        replace F := F.keeps kp₅
        replace N := N.grown kp₅
        have r₅ : RelT s.heap.objs.size 198 s s₅ := (r₃).trans (RelT.of ((Same.of _ _ _).trans sm₅) kp₅)
        have HI₅ := (HI₃).keep kp₅
        refine z_storeB F N (fun h tk F' N' mv => ?_) rfl rfl
        have T₂ := turn_ns F.ns mv
        refine wpAny_execs_nil ?_
        exact hQ₁ _ _ ⟨rfl, r₅.turn hzL mv, T₂.hinv HI₅, aC, css, _, F', up_eq _ _ _, N', T₂.ll hcs, hv, hln, hea⟩
    · refine wpAny_execs_cons ?_
      refine wpAny_Assign_Name ?_ (by with_unfolding_all rfl)
      (repeat (first | ((with_reducible show wpAny _ _ (eval (Expr.Name _ _) _) _ _ _); (first | (refine nameX_L (v := _) F (by (repeat (first | with_reducible assumption | with_reducible exact up_eq _ _ _ | refine (up_ne (by decide)).trans ?_ | exact rfl))) ?_ rfl rfl (by decide)) | (refine nameX_C (c := _) (o := _) (v := _) N rfl (by k_mem) (by assumption) ?_ rfl rfl (by decide)) | (refine r_glob G F (by k_is) ?_ rfl rfl (by decide)) | (refine r_boot G F (by boot_fast) (by k_is) (by decide) ?_ rfl rfl (by decide)))) | (with_reducible refine args_cons ?_ rfl) | (with_reducible refine args_nil ?_) | ((with_reducible show Keep _ _ ∧ _); refine And.intro F.keep ?_) | ((with_reducible show wpAny _ _ (callWith _ (Value.ref _) [] _ []) _ _ _); refine r_callf G (by k_is) ?_ rfl rfl) | (with_reducible refine Call_ ?_ rfl)))
      refine drawn_ok (G.keeps F.keep) ((Rm.less (by decide)).deeper _) (stays_list F.keep hl₀) hi (by (first | lia | omega)) hn3 (fun aC css s₅ sm₅ kp₅ hcs hv hln hea => ?_)
      replace F := F.keeps kp₅
      replace N := N.grown kp₅
      have r₅ : RelT s.heap.objs.size 198 s s₅ := (r₂).trans (RelT.of ((Same.of _ _ _).trans sm₅) kp₅)
      have HI₅ := (HI).keep kp₅
      refine z_storeB F N (fun h tk F' N' mv => ?_) rfl rfl
      have T₂ := turn_ns F.ns mv
      refine wpAny_execs_nil ?_
      exact hQ₁ _ _ ⟨rfl, r₅.turn hzL mv, T₂.hinv HI₅, aC, css, _, F', up_eq _ _ _, N', T₂.ll hcs, hv, hln, hea⟩
  · rintro f s₂ ⟨rfl, r₃, HI₃, a, css, m', F', hmc, N', hcs, hv, hlen, hea⟩
    have Sm : Small n css := ⟨hv, hn3, by (first | lia | omega), fun c hc => by have := hea c hc; (first | lia | omega)⟩
    clear F N HI r₁ r₂
    have F := F'
    have N := N'
    clear F' N'
    show wpAny _ _ _ _ _ _
    refine wpAny_execs_cons ?_
    refine wpAny_Assign_Name ?_ (by with_unfolding_all rfl)
    refine comp_expr (cl := []) rfl (by decide) rfl (by decide) rfl ?_ (fun _ => rfl)
    refine nameX_L (v := _) F hmc ?_ rfl rfl (by decide)
    obtain ⟨cvs, hca, hcp⟩ := id hcs
    refine wpAny_mono (src_list (show A.handled = none from Rm.handled) hca) (fun it s₃ hit => ?_) fun _ _ e => e
    refine copies_in (G.keeps F.keep) (by k_is) hcp (by rw [paired_len hcp]; (first | lia | omega)) Sm.each rfl rfl (fun _ => rfl) (fun _ => rfl) (fun _ => rfl) (by decide) hit ?_
    intro C aB ys s₄ hCD hC hD hp hy sm₄ kp₄ ⟨qB, eB⟩
    clear hit
    have hbs : IsLL s₄.heap aB css := ⟨ys, IsL.isList eB, hp⟩
    replace hcs := hcs.keep kp₄
    have r₄ := r₃.trans (RelT.of sm₄ kp₄)
    have HI₄ := HI₃.keep kp₄
    replace F := F.keeps kp₄
    replace N := N.grown kp₄
    refine z_storeC F rfl (N.get (.head _)) cbL cbg db (fun h₅ ob₅ F' hob₅ dob₅ mv => ?_) rfl rfl
    have T₅ := turn_cell (N.get (.head _)) db mv
    have HI₅ := T₅.hinv HI₄
    have r₅ := r₄.turn (tk := s₄.toks) (Nat.le_succ_of_le (Nat.le_succ_of_le hzL)) mv
    replace hcs := T₅.ll hcs
    replace hbs := T₅.ll hbs
    replace N : News g L h₅ [(L + 1 + 1, ob₅), (L + 1, o')] :=
      news_cons (news_cons News.nil (mv _ _ (Nat.ne_of_lt (Nat.lt_succ_self _)) (N.get (.tail _ (.head _)))) cnL cng) hob₅ cbL cbg
    replace F := F'
    clear F' mv T₅ hob₅ hca hcp eB hp hy
    have h8 : (2 : Nat) ^ n ≤ 8 := Nat.pow_le_pow_right (by decide) hn3
    have hpw : (2 : Int) ^ ((n : Nat) : Int).toNat = ((2 ^ n : Nat) : Int) := by simp
    have hb1 : ((2 ^ n : Nat) : Int) ≤ 8 := Int.ofNat_le.mpr h8
    have hb0 : 0 ≤ ((2 ^ n : Nat) : Int) := Int.natCast_nonneg _
    refine wpAny_execs_cons ?_
    refine comp_assign (g := g) (cl := [("n", L + 1), ("before", L + 1 + 1)]) rfl rfl (by decide) rfl (by decide) rfl rfl rfl ?_ (fun _ => rfl)
    (repeat (first | with_reducible refine wpAny_BinOp ?_ | with_reducible refine z_int ?_ | ((with_reducible show wpAny _ _ (eval (Expr.Name _ _) _) _ _ _); (first | (refine nameX_L (v := _) F (by (repeat (first | with_reducible assumption | with_reducible exact up_eq _ _ _ | refine (up_ne (by decide)).trans ?_ | exact rfl))) ?_ rfl rfl (by decide)) | (refine nameX_C (c := _) (o := _) (v := _) N rfl (by k_mem) (by assumption) ?_ rfl rfl (by decide)) | (refine r_glob G F (by k_is) ?_ rfl rfl (by decide)) | (refine r_boot G F (by boot_fast) (by k_is) (by decide) ?_ rfl rfl (by decide)))) | (with_reducible refine args_cons ?_ rfl) | ((with_reducible show wpAny _ _ (callWith _ (Value.type _) [] _ []) _ _ _); refine Pv.callWith_type1 ?_ rfl rfl) | (with_reducible refine Call_ ?_ rfl)))
    refine z_pow (by (first | lia | omega)) (by (first | lia | omega)) (by decide) ?_
    rw [hpw]
    (repeat (first | (with_reducible refine args_nil ?_)))
    (refine z_range1 F N ?_; clear F N; intro r h tk t0 u0 v0 F N hr hkr)
    replace HI₅ := HI₅.keep hkr
    replace r₅ := r₅.trans (RelT.of (s' := { s₄ with heap := h, toks := tk }) (Same.of _ _ _) hkr)
    replace hcs := hcs.keep hkr
    replace hbs := hbs.keep hkr
    have hzh : s.heap.objs.size ≤ h.objs.size := Nat.le_trans hzL (Nat.le_of_lt F.ns.lt)
    refine wpAny_mono (src_rangeR (n := 2 ^ n) (show A.handled = none from Rm.handled) hr (sm0 (Nat.le_trans h8 (by decide))) (sz0 _)) (fun it s₆ hit => ?_) fun _ _ e => e
    have hit' := hit
    refine compIn_t (z := s.heap.objs.size) hit (Nat.le_trans h8 (by decide)) (fun i ys => ys.length = ((List.range i).filter (lawHolds css n)).length) rfl hzh l₁ l₀ HI₅ ?_ ?_
    · rintro C D i ys v s₇ m₇ E₇ hi' ⟨tv, rfl⟩ hJ r₇ HI₇ hAv hn₇ hm₇
      have e0 : (0 : Int) + (i : Nat) = (i : Nat) := by (first | lia | omega)
      rw [e0] at hm₇
      have G₇ := (G.keeps F.keep).keepT r₇.kt rfl
      have db₇ : s₇.heap.IsCell (L + 1 + 1) (some (.ref aB)) := r₇.kt.cell ⟨ob₅, N.get (.head _), dob₅⟩
      have dn₇ : s₇.heap.IsCell (L + 1) (some (.int (n : Nat) _)) := r₇.kt.cell ⟨o', N.get (.tail _ (.head _)), do'⟩
      refine tests_one ?_
      refine isTrue_plain ?_ (by with_unfolding_all rfl)
      refine Call_ ?_ rfl
      refine e_glob G₇ (by k_is) ?_ rfl rfl rfl (by decide)
      refine r_callf G₇ (by k_is) ?_ rfl rfl
      refine args_cons ?_ rfl
      refine e_cell (c := L + 1 + 1) rfl db₇ ?_ rfl rfl (by decide)
      refine args_cons ?_ rfl
      refine e_cell (c := L + 1) rfl dn₇ ?_ rfl rfl (by decide)
      refine args_cons ?_ rfl
      refine e_local hn₇ hm₇ ?_ rfl rfl (by decide)
      refine args_nil ?_
      refine ⟨fun _ _ e => e, ?_⟩
      refine holds_ok G₇ ((Rm.less (by decide)).deeper _) (r₇.kt.bmod (B₀.keeps F.keep)) hAv HI₇ (r₇.kt.ll hbs) hn3 (by (first | lia | omega)) (fun s₈ kt₈ kz₈ mg₈ dr₈ os₈ HI₈ => ?_)
      refine wpAny_truthy_bool ?_
      refine ⟨⟨kt₈, fun b o hb hP e => kz₈ b o (fun q => Nat.lt_irrefl _ (Nat.lt_of_lt_of_le hb q.1)) hP e, mg₈, dr₈, os₈⟩, kz₈, HI₈, ?_⟩
      refine split_bool (fun hc => ?_) (fun hc => ?_)
      · refine e_local (kt₈.ns hn₇) hm₇ ?_ rfl rfl (by decide)
        refine ⟨Same.refl _, Keep.refl _, ?_⟩
        rw [List.range_succ, List.filter_append, List.length_append, List.length_append, hJ, List.filter_cons_of_pos hc]
        rfl
      · rw [List.range_succ, List.filter_append, List.length_append, hJ, List.filter_cons_of_neg (by simpa using hc)]
        rfl
    · intro C D ys s₇ hCD hC hD hJ r₇ HI₇ hpl
      obtain ⟨_, _, _, _, _, _, k₂⟩ := hit'
      obtain ⟨oL, _, _, hoL, _⟩ := id F.ns
      have F₇ : Fr g L s₇.heap m' := by
        rw [← hgg] at F ⊢
        exact fr_rel F r₇
      refine ⟨m', F₇, fun b o e => k₂ b o (F.keep b o e), ⟨oL, k₂ _ _ hoL⟩, fun h₈ tk₈ F₈ hpl₈ mv => ?_⟩
      obtain ⟨qM, eM⟩ := hpl₈
      have ne2 : ∀ {b : Addr}, b < h.objs.size → b ≠ L → ∀ o, s₇.heap.get? b = some o → h₈.get? b = some o := fun {b} hb hbL o e => mv b o hbL (Nat.ne_of_lt (Nat.lt_trans hb hC)) e
      have mvl : ∀ {b : Addr} {its : Array Value}, h.IsList b its → h₈.IsList b its := fun {b its} hl => (r₇.kt.list hl).at (fun o e => ne2 (list_lt hl) (list_ne_ns hl F.ns) o e)
      have mvll : ∀ {b : Addr}, IsLL h b css → IsLL h₈ b css := fun ⟨vs, hl, hp⟩ => ⟨vs, mvl hl, hp.mono fun _ _ ⟨b, its, e, hl, hi⟩ => ⟨b, its, e, mvl hl, hi⟩⟩
      replace hcs := mvll hcs
      replace hbs := mvll hbs
      have r₈ : RelT s.heap.objs.size 198 s { s₇ with heap := h₈, toks := tk₈ } := by
        have r := r₅.trans r₇
        have lo : ∀ {b : Addr} {o : Obj}, s.heap.get? b = some o → ∀ o', s₇.heap.get? b = some o' → h₈.get? b = some o' := fun {b o} e o' e' => ne2 (Nat.lt_of_lt_of_le (Heap.lt_size e) hzh) (Nat.ne_of_lt (Nat.lt_of_lt_of_le (Heap.lt_size e) hzL)) o' e'
        exact ⟨fun b o e hn => lo e o (r.kt b o e hn), fun b o h1 h2 e => lo e o (r.kz b o h1 h2 e), r.gens, r.drawn, r.os⟩
      obtain ⟨_, psT, eT, _, _⟩ := HI₇
      have l198 : @LT.lt Nat _ 198 h.objs.size := Nat.lt_of_lt_of_le l₀ hzh
      replace eT := ne2 l198 (Nat.ne_of_lt (Nat.lt_of_lt_of_le l₀ hzL)) _ eT
      have e1 := ne2 (Heap.lt_size (N.get (.head _))) cbL _ (r₇.kt _ _ (N.get (.head _)) (tab_data fun ps q => by rw [dob₅] at q; cases q))
      have e2 := ne2 (Heap.lt_size (N.get (.tail _ (.head _)))) cnL _ (r₇.kt _ _ (N.get (.tail _ (.head _))) (tab_data fun ps q => by rw [do'] at q; cases q))
      replace N : News g L h₈ [(L + 1 + 1, ob₅), (L + 1, o')] := news_cons (news_cons News.nil e2 cnL cng) e1 cbL cbg
      replace F := F₈
      clear F₈ F₇ mv r₇ HI₅ r₅ hr hkr HI₃ HI₄ r₃ r₄ hit
      have hlenD : ys.length ≤ 8 := by
        rw [hJ]
        have := List.length_filter_le (lawHolds css n) (List.range (2 ^ n))
        rw [List.length_range] at this
        (first | lia | omega)
      show wpAny _ _ _ _ _ _
      refine wpAny_execs_cons ?_
      refine wpAny_Assign_Name ?_ (by with_unfolding_all rfl)
      (repeat (first | (with_reducible refine wpAny_Compare1 ?_ (by with_unfolding_all rfl)) | ((with_reducible show wpAny _ _ (eval (Expr.Name _ _) _) _ _ _); (first | (refine nameX_L (v := _) F (by (repeat (first | with_reducible assumption | with_reducible exact up_eq _ _ _ | refine (up_ne (by decide)).trans ?_ | exact rfl))) ?_ rfl rfl (by decide)) | (refine nameX_C (c := _) (o := _) (v := _) N rfl (by k_mem) (by assumption) ?_ rfl rfl (by decide)) | (refine r_glob G F (by k_is) ?_ rfl rfl (by decide)) | (refine r_boot G F (by boot_fast) (by k_is) (by decide) ?_ rfl rfl (by decide)))) | (with_reducible refine args_cons ?_ rfl) | (with_reducible refine args_nil ?_) | ((with_reducible show wpAny _ _ (callWith _ (Value.builtin _) [] _ []) _ _ _); refine callWith_builtin1 ?_ rfl rfl) | (with_reducible refine Call_ ?_ rfl)))
      refine z_len (n := ys.length) (IsL.isList eM) rfl (by (first | lia | omega)) (fun tl tk => ?_)
      refine z_int ?_
      refine gt_int ?_
      refine z_storeB F N (fun h tk F' N' mv => ?_) rfl rfl
      have T₉ := turn_ns F.ns mv
      replace hcs := T₉.ll hcs
      replace hbs := T₉.ll hbs
      have r₉ := r₈.turn (tk := tk) hzL mv
      replace eT := mv _ _ (Nat.ne_of_lt (Nat.lt_of_lt_of_le l₀ hzL)) eT
      replace F := F'
      replace N := N'
      clear F' N' mv T₉ r₈
      refine wpAny_execs_cons ?_
      refine wpAny_Assign_Name ?_ (by with_unfolding_all rfl)
      (repeat (first | ((with_reducible show wpAny _ _ (eval (Expr.Name _ _) _) _ _ _); (first | (refine nameX_L (v := _) F (by (repeat (first | with_reducible assumption | with_reducible exact up_eq _ _ _ | refine (up_ne (by decide)).trans ?_ | exact rfl))) ?_ rfl rfl (by decide)) | (refine nameX_C (c := _) (o := _) (v := _) N rfl (by k_mem) (by assumption) ?_ rfl rfl (by decide)) | (refine r_glob G F (by k_is) ?_ rfl rfl (by decide)) | (refine r_boot G F (by boot_fast) (by k_is) (by decide) ?_ rfl rfl (by decide)))) | (with_reducible refine args_cons ?_ rfl) | (with_reducible refine args_nil ?_) | ((with_reducible show Keep _ _ ∧ _); refine And.intro F.keep ?_) | ((with_reducible show wpAny _ _ (callWith _ (Value.ref _) [] _ []) _ _ _); refine r_callf G (by k_is) ?_ rfl rfl) | (with_reducible refine Call_ ?_ rfl)))
      refine law_solver_ok (G.keeps F.keep) ((Rm.less (by decide)).deeper _) hcs Sm (fun s₁₀ sm₁₀ kp₁₀ => ?_)
      replace F := F.keeps kp₁₀
      replace N := N.grown kp₁₀
      replace hcs := hcs.keep kp₁₀
      replace hbs := hbs.keep kp₁₀
      have r₁₀ := r₉.trans (RelT.of ((Same.of _ _ _).trans sm₁₀) kp₁₀)
      replace eT := kp₁₀ _ _ eT
      refine z_storeB F N (fun h tk F' N' mv => ?_) rfl rfl
      have T₉ := turn_ns F.ns mv
      replace hcs := T₉.ll hcs
      replace hbs := T₉.ll hbs
      have r₁₁ := r₁₀.turn (tk := tk) hzL mv
      replace eT := mv _ _ (Nat.ne_of_lt (Nat.lt_of_lt_of_le l₀ hzL)) eT
      replace F := F'
      replace N := N'
      clear F' N' mv T₉ r₉ r₁₀
      (repeat (first | with_reducible refine wpAny_execs_cons ?_ | with_reducible refine wpAny_If ?_ | (with_reducible refine wpAny_isTrue_Compare1 ?_ (by with_unfolding_all rfl)) | with_reducible refine Constant_bool ?_ | ((with_reducible show wpAny _ _ (eval (Expr.Name _ _) _) _ _ _); (first | (refine nameX_L (v := _) F (by (repeat (first | with_reducible assumption | with_reducible exact up_eq _ _ _ | refine (up_ne (by decide)).trans ?_ | exact rfl))) ?_ rfl rfl (by decide)) | (refine nameX_C (c := _) (o := _) (v := _) N rfl (by k_mem) (by assumption) ?_ rfl rfl (by decide)) | (refine r_glob G F (by k_is) ?_ rfl rfl (by decide)) | (refine r_boot G F (by boot_fast) (by k_is) (by decide) ?_ rfl rfl (by decide))))))
      refine isnot_bool ?_
      rw [show (true != true) = false from rfl]
      (repeat (first | with_reducible refine wpAny_truthy_bool ?_))
      simp only [Bool.false_eq_true, if_false]
      (repeat (first | with_reducible refine wpAny_execs_cons ?_ | with_reducible refine wpAny_execs_nil ?_ | with_reducible refine wpAny_If ?_ | (with_reducible refine wpAny_isTrue_Compare1 ?_ (by with_unfolding_all rfl)) | ((with_reducible show wpAny _ _ (eval (Expr.Name _ _) _) _ _ _); (first | (refine nameX_L (v := _) F (by (repeat (first | with_reducible assumption | with_reducible exact up_eq _ _ _ | refine (up_ne (by decide)).trans ?_ | exact rfl))) ?_ rfl rfl (by decide)) | (refine nameX_C (c := _) (o := _) (v := _) N rfl (by k_mem) (by assumption) ?_ rfl rfl (by decide)) | (refine r_glob G F (by k_is) ?_ rfl rfl (by decide)) | (refine r_boot G F (by boot_fast) (by k_is) (by decide) ?_ rfl rfl (by decide))))))
      refine r_ne_ll hcs hbs ?_ ?_
      · have := Rm.units
        show A.units + 3 + 64 < cLine
        (first | lia | omega)
      (repeat (first | with_reducible refine wpAny_truthy_bool ?_))
      simp only [Bool.false_eq_true, if_false]
      (repeat (first | with_reducible refine wpAny_execs_cons ?_ | with_reducible refine wpAny_execs_nil ?_ | with_reducible refine wpAny_If ?_ | (with_reducible refine wpAny_isTrue_Compare1 ?_ (by with_unfolding_all rfl)) | ((with_reducible show wpAny _ _ (eval (Expr.Name _ _) _) _ _ _); (first | (refine nameX_L (v := _) F (by (repeat (first | with_reducible assumption | with_reducible exact up_eq _ _ _ | refine (up_ne (by decide)).trans ?_ | exact rfl))) ?_ rfl rfl (by decide)) | (refine nameX_C (c := _) (o := _) (v := _) N rfl (by k_mem) (by assumption) ?_ rfl rfl (by decide)) | (refine r_glob G F (by k_is) ?_ rfl rfl (by decide)) | (refine r_boot G F (by boot_fast) (by k_is) (by decide) ?_ rfl rfl (by decide)))) | (with_reducible refine args_cons ?_ rfl) | (with_reducible refine args_nil ?_) | ((with_reducible show Keep _ _ ∧ _); refine And.intro F.keep ?_) | ((with_reducible show wpAny _ _ (callWith _ (Value.ref _) [] _ []) _ _ _); refine r_callf G (by k_is) ?_ rfl rfl) | (with_reducible refine Call_ ?_ rfl)))
      refine truth_table_ok (G.keeps F.keep) ((Rm.less (by decide)).deeper _) hcs Sm (fun s₁₂ sm₁₂ kp₁₂ => ?_)
      replace F := F.keeps kp₁₂
      replace N := N.grown kp₁₂
      have r₁₂ := r₁₁.trans (RelT.of ((Same.of _ _ _).trans sm₁₂) kp₁₂)
      replace eT := kp₁₂ _ _ eT
      (repeat (first | ((with_reducible show wpAny _ _ (eval (Expr.Name _ _) _) _ _ _); (first | (refine nameX_L (v := _) F (by (repeat (first | with_reducible assumption | with_reducible exact up_eq _ _ _ | refine (up_ne (by decide)).trans ?_ | exact rfl))) ?_ rfl rfl (by decide)) | (refine nameX_C (c := _) (o := _) (v := _) N rfl (by k_mem) (by assumption) ?_ rfl rfl (by decide)) | (refine r_glob G F (by k_is) ?_ rfl rfl (by decide)) | (refine r_boot G F (by boot_fast) (by k_is) (by decide) ?_ rfl rfl (by decide))))))
      refine isnot_bool ?_
      have hdue : (truthTable css n != decide ((0 : Int) < ((ys.length : Nat) : Int))) = false := by
        rw [due_eq hv, hJ]
        simp
      rw [hdue]
      (repeat (first | with_reducible refine wpAny_truthy_bool ?_))
      simp only [Bool.false_eq_true, if_false]
      (repeat (first | with_reducible refine wpAny_execs_cons ?_ | with_reducible refine wpAny_execs_nil ?_ | with_reducible refine wpAny_Return_some ?_ | with_reducible refine Constant_bool ?_))
      exact hQ₀ (.ret _) _ (ret _ r₁₂ ⟨psT, eT⟩)
end
end Mine

theorem Mine.oldK_of {s s' : Shared} {c P : Addr} {ps : Array Value} (hd : CodeHd s.heap c P) (e : s.heap.get? P = some (tabObj #[])) (r : Mine.RelT s.heap.objs.size P s s') (e' : s'.heap.get? P = some (tabObj ps)) : OldK s.heap s'.heap := by
  refine ⟨fun b o eb => ?_, fun b o eb => ?_⟩
  · by_cases hb : b = P
    · subst hb
      rw [e] at eb; cases eb
      exact .inr (.inl ⟨(hd.tab e).isCodeTable, rfl, #[], ps, rfl, by rw [Array.empty_append]; exact e'⟩)
    · exact .inl (r.kz b o (Heap.lt_size eb) hb eb)
  · by_cases hb : b = P
    · exact ⟨_, hb ▸ e'⟩
    · exact ⟨o, r.kz b o (Heap.lt_size eb) hb eb⟩
theorem Mine.t34 : PySem.Challenge.rw_k11_0034.Holds := Mine.hd (by
  k_fill
  intro w s₀ s₁ mg mb G Y fa o pm cd doc dV kV ho hd hcd hD hmg hg args vals as hpre hlay hrd hwl hlo
  have KX := kIn_of Y
  refine Ground.open G ?_
  intro T B D TE TW
  obtain ⟨bm, ob, M⟩ := bmod_of_top T
  wrow_args hpre hlay hrd hwl hlo
  all_goals (first | refine callC_kw (enter_call ?_) | refine enter_call ?_ | refine callC_kw (enter_callW ?_) | refine enter_callW ?_)
  rename_i ns a1 a2 a3 a4 a5 as1 as2 l vs as3 hL a6 a7 a8 hI a9 hlen a10
  have e206 := mg_of KX T.g (show nsIn (Mine.hd.heap_39 w.params) mainGlobals "law" = some (some (.ref 206)) by k_is)
  have hfa : fa = 206 := by
    rw [show mg _ = some (.ref 206) from e206] at hmg
    cases hmg; rfl
  subst hfa
  obtain ⟨hd₀, ht₀⟩ := tab_of (x := PySem.Str.ofString "_law_holds") (c := 200) (P := 198) T KX rfl (by kernel_rfl)
  refine Mine.law_ok ⟨KX, topRead_of T⟩ ⟨rfl, by decide, by decide⟩ M hd₀ ht₀ hL hI (by (first | lia | omega)) (fun s' r eT => ?_)
  obtain ⟨ps, eT⟩ := eT
  refine ⟨.inl ⟨.bool true, .bool true, [], rfl, fun cls => rfl, .bool _, ?_, fun _ => ⟨.nil, nofun⟩⟩, ?_, r.os, ?_⟩
  · wrow_post
  · exact Mine.oldK_of hd₀ ht₀ r eT
  · intro y hy
    obtain ⟨k, hk, e⟩ := Array.getElem_of_mem hy
    refine r.gens.bare k y (by rw [hg]; exact Nat.zero_le _) ?_
    rw [← e]; exact Array.getElem?_eq_getElem hk)

theorem PySem.Challenge.cw_k11_0034_holds : PySem.Challenge.rw_k11_0034.Holds := by
  exact Mine.t34
