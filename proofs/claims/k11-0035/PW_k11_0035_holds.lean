import PyProof.Rows.All
import PyProof.CodeObjX
import PyProof.ConsumeS
import PyProof.DelItemList
import PyProof.RangeIter
import PyProof.WalksMore
import PyProof.RangeFor
import PyProof.GenArm
import PyProof.GenQ
import PyProof.ListCopy
import PyProof.ListIndexNeg
import PyProof.Rows.News
import PyProof.Rows.GenRows
import PyProof.RulesDel
import PyProof.Rows.Many
import PyProof.Rows.RuleB_rshift
import PyProof.Rows.SeqIn
import PyProof.Rows.ListMul
import PyProof.Rows.RuleN_abs
import PyProof.RulesDelMore
import PyProof.Rows.SeqMore
import OpenK.KLine
import OpenK.KRaise
import KE.KSlice
import KE.KNest
import KE.KEqDeep
import KE.KSetAt
import PySem.Challenge.RW_k11_0035

open PySem PySem.W PyProof.Rows
set_option Elab.async false
set_option maxRecDepth 100000
set_option maxHeartbeats 8000000
set_option linter.unusedVariables false
set_option pp.maxSteps 600
set_option pp.deepTerms false

namespace Mine

/-- what literal_value gives back -/
def litVal (lit : Int) (vals : List Int) : Int :=
  if 0 < lit then vals.getD lit.toNat 0 else -(vals.getD (-lit).toNat 0)

inductive CS where
  | tru
  | fls
  | opn
  | unit (l : Int)

def clauseState (c vals : List Int) : CS :=
  if c.any (fun l => litVal l vals == 1) then .tru
  else match c.filter (fun l => litVal l vals == 0) with
    | [] => .fls
    | u :: us => if (u :: us).any (fun l => l != u) then .opn else .unit u

def CS.isTru : CS → Bool
  | .tru => true
  | _ => false

def satisfies (vals : List Int) (cs : List (List Int)) : Bool := cs.all fun c => (clauseState c vals).isTru

/-- what values_of_number gives back, behind its first nought -/
def bitsOf : Nat → Nat → List Int
  | _, 0 => []
  | k, n + 1 => (if k % 2 = 1 then 1 else -1) :: bitsOf (k / 2) n
def valuesOf (k n : Nat) : List Int := 0 :: bitsOf k n

def truthTable (cs : List (List Int)) (n : Nat) : Bool := (List.range (2 ^ n)).any fun k => satisfies (valuesOf k n) cs

def setW (W : List Int) (lit : Int) : List Int := if 0 < lit then W.set lit.toNat 1 else W.set (-lit).toNat (-1)

def roundF : List (List Int) → List Int → List Int → Bool → List Int × List Int × Option Bool
  | [], W, O, mv => (W, O, some mv)
  | c :: cs, W, O, mv => match clauseState c W with
    | .fls => (W, O, none)
    | .unit l => roundF cs (setW W l) (O ++ [l]) true
    | _ => roundF cs W O mv

def propF : Nat → List (List Int) → List Int → List Int → List Int × List Int × Bool
  | 0, _, W, O => (W, O, true)
  | k + 1, cs, W, O => match roundF cs W O false with
    | (W', O', none) => (W', O', false)
    | (W', O', some false) => (W', O', true)
    | (W', O', some true) => propF k cs W' O'

/-! ## models -/

def Valid (n : Nat) (l : Int) : Prop := l ≠ 0 ∧ l.natAbs ≤ n
def ValidC (n : Nat) (c : List Int) : Prop := ∀ l ∈ c, Valid n l
def ValidCs (n : Nat) (cs : List (List Int)) : Prop := ∀ c ∈ cs, ValidC n c

def Sat (M : Nat → Bool) (l : Int) : Prop := if 0 < l then M l.natAbs = true else M l.natAbs = false
def Models (M : Nat → Bool) (cs : List (List Int)) : Prop := ∀ c ∈ cs, ∃ l ∈ c, Sat M l

theorem sat_neg {M : Nat → Bool} {l : Int} (h : l ≠ 0) : Sat M (-l) ↔ ¬ Sat M l := by
  unfold Sat
  rw [Int.natAbs_neg]
  by_cases h1 : 0 < l
  · have h2 : ¬ (0 < -l) := by (first | lia | omega)
    rw [if_neg h2, if_pos h1]; simp
  · have h2 : 0 < -l := by (first | lia | omega)
    rw [if_pos h2, if_neg h1]; simp

/-- the trail: W tells of each literal whether it lies in O -/
structure Tr (n : Nat) (W O : List Int) : Prop where
  len : W.length = n + 1
  val : ∀ l ∈ O, Valid n l
  nodup : O.Nodup
  anti : ∀ l ∈ O, -l ∉ O
  one : ∀ l, Valid n l → (litVal l W = 1 ↔ l ∈ O)
  zero : ∀ l, Valid n l → (litVal l W = 0 ↔ l ∉ O ∧ -l ∉ O)

theorem litVal_neg {l : Int} {W : List Int} (h : l ≠ 0) : litVal (-l) W = - litVal l W := by
  unfold litVal
  by_cases h1 : 0 < l
  · have h2 : ¬ (0 < -l) := by (first | lia | omega)
    rw [if_neg h2, if_pos h1, Int.neg_neg]
  · have h2 : 0 < -l := by (first | lia | omega)
    rw [if_pos h2, if_neg h1, Int.neg_neg]

theorem Valid.neg {n : Nat} {l : Int} (h : Valid n l) : Valid n (-l) := ⟨by have := h.1; (first | lia | omega), by rw [Int.natAbs_neg]; exact h.2⟩

theorem Tr.false_iff {n : Nat} {W O : List Int} (T : Tr n W O) {l : Int} (h : Valid n l) (h1 : litVal l W ≠ 1) (h0 : litVal l W ≠ 0) : -l ∈ O := by
  have a : l ∉ O := fun q => h1 ((T.one l h).mpr q)
  have b : ¬ (l ∉ O ∧ -l ∉ O) := fun q => h0 ((T.zero l h).mpr q)
  by_cases hc : -l ∈ O
  · exact hc
  · exact absurd ⟨a, hc⟩ b

theorem getD_set (W : List Int) (i j : Nat) (v : Int) (hi : i < W.length) : (W.set i v).getD j 0 = if j = i then v else W.getD j 0 := by
  simp only [List.getD_eq_getElem?_getD, List.getElem?_set]
  by_cases h : i = j
  · subst h; simp [hi]
  · have h' : ¬ j = i := fun q => h q.symm
    simp [h, h']

theorem litVal_setW {n : Nat} {W : List Int} {l x : Int} (hl : Valid n l) (hx : Valid n x) (hW : W.length = n + 1) :
    litVal x (setW W l) = if x = l then 1 else if x = -l then -1 else litVal x W := by
  have hl1 := hl.1; have hl2 := hl.2; have hx1 := hx.1; have hx2 := hx.2
  unfold litVal setW
  by_cases h1 : 0 < l
  · simp only [if_pos h1]
    by_cases h2 : 0 < x
    · simp only [if_pos h2]
      rw [getD_set _ _ _ _ (by (first | lia | omega))]
      by_cases h3 : x = l
      · subst h3; simp
      · have h4 : ¬ (x.toNat = l.toNat) := by (first | lia | omega)
        have h5 : ¬ (x = -l) := by (first | lia | omega)
        simp [h3, h4, h5]
    · simp only [if_neg h2]
      rw [getD_set _ _ _ _ (by (first | lia | omega))]
      have h3 : ¬ (x = l) := by (first | lia | omega)
      by_cases h5 : x = -l
      · subst h5; simp [h3]
      · have h4 : ¬ ((-x).toNat = l.toNat) := by (first | lia | omega)
        simp [h3, h4, h5]
  · simp only [if_neg h1]
    by_cases h2 : 0 < x
    · simp only [if_pos h2]
      rw [getD_set _ _ _ _ (by (first | lia | omega))]
      have h3 : ¬ (x = l) := by (first | lia | omega)
      by_cases h5 : x = -l
      · subst h5; simp [h3]
      · have h4 : ¬ (x.toNat = (-l).toNat) := by (first | lia | omega)
        simp [h3, h4, h5]
    · simp only [if_neg h2]
      rw [getD_set _ _ _ _ (by (first | lia | omega))]
      by_cases h3 : x = l
      · subst h3; simp
      · have h4 : ¬ ((-x).toNat = (-l).toNat) := by (first | lia | omega)
        have h5 : ¬ (x = -l) := by (first | lia | omega)
        simp [h3, h4, h5]

theorem setW_length (W : List Int) (l : Int) : (setW W l).length = W.length := by unfold setW; split <;> simp

theorem Tr.snoc {n : Nat} {W O : List Int} (T : Tr n W O) {l : Int} (hl : Valid n l) (h0 : litVal l W = 0) : Tr n (setW W l) (O ++ [l]) := by
  obtain ⟨a, b⟩ := (T.zero l hl).mp h0
  refine ⟨by rw [setW_length]; exact T.len, ?_, ?_, ?_, ?_, ?_⟩
  · intro x hx
    rcases List.mem_append.mp hx with q | q
    · exact T.val x q
    · rw [List.mem_singleton.mp q]; exact hl
  · rw [List.nodup_append]
    refine ⟨T.nodup, by simp, ?_⟩
    intro x hx y hy e
    rw [List.mem_singleton.mp hy] at e
    exact a (e ▸ hx)
  · intro x hx
    rw [List.mem_append, List.mem_singleton]
    rcases List.mem_append.mp hx with q | q
    · rintro (r | r)
      · exact T.anti x q r
      · have : x = -l := by (first | lia | omega)
        exact b (this ▸ q)
    · rw [List.mem_singleton.mp q]
      rintro (r | r)
      · exact b r
      · have := hl.1; (first | lia | omega)
  · intro x hx
    rw [litVal_setW hl hx T.len, List.mem_append, List.mem_singleton, ← T.one x hx]
    have := hl.1
    by_cases h1 : x = l
    · simp [h1]
    · by_cases h2 : x = -l
      · subst h2
        simp only [if_neg h1, if_true]
        rw [litVal_neg hl.1, h0]
        constructor
        · intro q; (first | lia | omega)
        · rintro (q | q) <;> (first | lia | omega)
      · simp [h1, h2]
  · intro x hx
    rw [litVal_setW hl hx T.len]
    simp only [List.mem_append, List.mem_singleton]
    have := hl.1
    by_cases h1 : x = l
    · simp [h1]
    · by_cases h2 : x = -l
      · subst h2
        simp [h1]
      · have h3 : ¬ (-x = l) := by (first | lia | omega)
        simp only [if_neg h2, h1, h3, or_false]
        exact T.zero x hx

/-! ## one round -/

theorem clause_tru {c W : List Int} (h : clauseState c W = .tru) : ∃ l ∈ c, litVal l W = 1 := by
  unfold clauseState at h
  split at h
  · rename_i q
    obtain ⟨l, hl, e⟩ := List.any_eq_true.mp q
    exact ⟨l, hl, by simpa using e⟩
  · split at h
    · cases h
    · split at h <;> cases h

theorem clause_fls {c W : List Int} (h : clauseState c W = .fls) : ∀ l ∈ c, litVal l W ≠ 1 ∧ litVal l W ≠ 0 := by
  unfold clauseState at h
  split at h
  · cases h
  · rename_i q
    split at h
    · rename_i e
      intro l hl
      refine ⟨fun r => q (List.any_eq_true.mpr ⟨l, hl, by simpa using r⟩), fun r => ?_⟩
      have : l ∈ c.filter (fun l => litVal l W == 0) := List.mem_filter.mpr ⟨hl, by simpa using r⟩
      rw [e] at this; cases this
    · split at h <;> cases h

theorem clause_unit {c W : List Int} {u : Int} (h : clauseState c W = .unit u) : u ∈ c ∧ litVal u W = 0 ∧ ∀ l ∈ c, l ≠ u → litVal l W ≠ 1 ∧ litVal l W ≠ 0 := by
  unfold clauseState at h
  split at h
  · cases h
  · rename_i q
    split at h
    · cases h
    · rename_i u' us e
      split at h
      · cases h
      · rename_i q2
        have hu : u' = u := by injection h
        subst hu
        have hm : u' ∈ c.filter (fun l => litVal l W == 0) := by rw [e]; exact List.mem_cons_self
        obtain ⟨m1, m2⟩ := List.mem_filter.mp hm
        refine ⟨m1, by simpa using m2, fun l hl hne => ⟨fun r => q (List.any_eq_true.mpr ⟨l, hl, by simpa using r⟩), fun r => ?_⟩⟩
        have h3 : l ∈ c.filter (fun l => litVal l W == 0) := List.mem_filter.mpr ⟨hl, by simpa using r⟩
        rw [e] at h3
        exact q2 (List.any_eq_true.mpr ⟨l, h3, by simpa using hne⟩)

theorem clause_opn {c W : List Int} (h : clauseState c W = .opn) : ∃ l ∈ c, ∃ l' ∈ c, l ≠ l' ∧ litVal l W = 0 ∧ litVal l' W = 0 := by
  unfold clauseState at h
  split at h
  · cases h
  · split at h
    · cases h
    · rename_i u us e
      split at h
      · rename_i q
        obtain ⟨l, hl, hne⟩ := List.any_eq_true.mp q
        have h1 : u ∈ c.filter (fun l => litVal l W == 0) := by rw [e]; exact List.mem_cons_self
        have h2 : l ∈ c.filter (fun l => litVal l W == 0) := by rw [e]; exact hl
        obtain ⟨a1, a2⟩ := List.mem_filter.mp h1
        obtain ⟨b1, b2⟩ := List.mem_filter.mp h2
        exact ⟨l, b1, u, a1, by simpa using hne, by simpa using b2, by simpa using a2⟩
      · cases h

/-- P: a set of models of cs, each of which bears the trail -/
def Bears (P : (Nat → Bool) → Prop) (O : List Int) : Prop := ∀ M, P M → ∀ l ∈ O, Sat M l

theorem no_model_fls {n : Nat} {W O c : List Int} (T : Tr n W O) (hc : ValidC n c) (h : ∀ l ∈ c, litVal l W ≠ 1 ∧ litVal l W ≠ 0) {M : Nat → Bool} (hO : ∀ l ∈ O, Sat M l) : ¬ ∃ l ∈ c, Sat M l := by
  rintro ⟨l, hl, hs⟩
  have := hO _ (T.false_iff (hc l hl) (h l hl).1 (h l hl).2)
  exact (sat_neg (hc l hl).1).mp this hs

theorem unit_forced {n : Nat} {W O c : List Int} {u : Int} (T : Tr n W O) (hc : ValidC n c) (h : ∀ l ∈ c, l ≠ u → litVal l W ≠ 1 ∧ litVal l W ≠ 0) {M : Nat → Bool} (hO : ∀ l ∈ O, Sat M l) (hm : ∃ l ∈ c, Sat M l) : Sat M u := by
  obtain ⟨l, hl, hs⟩ := hm
  by_cases e : l = u
  · exact e ▸ hs
  · have := hO _ (T.false_iff (hc l hl) (h l hl e).1 (h l hl e).2)
    exact absurd hs ((sat_neg (hc l hl).1).mp this)

structure RoundOk (n : Nat) (P : (Nat → Bool) → Prop) (cs : List (List Int)) (W O : List Int) (mv : Bool) (r : List Int × List Int × Option Bool) : Prop where
  tr : Tr n r.1 r.2.1
  ext : ∃ X, r.2.1 = O ++ X ∧ (r.2.2 = some true → mv = true ∨ 0 < X.length) ∧ (r.2.2 = some false → mv = false ∧ X = [] ∧ r.1 = W)
  bears : Bears P r.2.1
  fail : r.2.2 = none → ∀ M, ¬ P M
  fix : r.2.2 = some false → ∀ c ∈ cs, clauseState c W = .tru ∨ clauseState c W = .opn

theorem round_ok {n : Nat} {P : (Nat → Bool) → Prop} : ∀ {cs : List (List Int)} {W O : List Int} {mv : Bool}, Tr n W O → ValidCs n cs → Bears P O → (∀ M, P M → Models M cs) → RoundOk n P cs W O mv (roundF cs W O mv)
  | [], W, O, mv, T, _, hB, _ => by
    refine ⟨T, ⟨[], by simp [roundF], fun h => ?_, fun h => ?_⟩, hB, fun h => ?_, fun _ c hc => nomatch hc⟩
    · left; simpa [roundF] using h
    · refine ⟨by simpa [roundF] using h, rfl, rfl⟩
    · simp [roundF] at h
  | c :: cs, W, O, mv, T, hv, hB, hM => by
    have hvc : ValidC n c := hv c List.mem_cons_self
    have hvs : ValidCs n cs := fun d hd => hv d (List.mem_cons_of_mem _ hd)
    have hMs : ∀ M, P M → Models M cs := fun M hP d hd => hM M hP d (List.mem_cons_of_mem _ hd)
    cases e : clauseState c W with
    | fls =>
      simp only [roundF, e]
      refine ⟨T, ⟨[], by simp, fun h => by simp at h, fun h => by simp at h⟩, hB, fun _ M hP => ?_, fun h => by simp at h⟩
      exact no_model_fls T hvc (clause_fls e) (hB M hP) (hM M hP c List.mem_cons_self)
    | unit l =>
      simp only [roundF, e]
      obtain ⟨hl, h0, hr⟩ := clause_unit e
      have T' := T.snoc (hvc l hl) h0
      have hB' : Bears P (O ++ [l]) := fun M hP x hx => by
        rcases List.mem_append.mp hx with q | q
        · exact hB M hP x q
        · rw [List.mem_singleton.mp q]; exact unit_forced T hvc hr (hB M hP) (hM M hP c List.mem_cons_self)
      have R := round_ok (mv := true) T' hvs hB' hMs
      obtain ⟨X, eX, h1, h2⟩ := R.ext
      refine ⟨R.tr, ⟨l :: X, by rw [eX]; simp, fun _ => .inr (by simp), fun h => absurd (h2 h).1 (by simp)⟩, R.bears, R.fail, fun h => absurd (h2 h).1 (by simp)⟩
    | tru =>
      simp only [roundF, e]
      have R := round_ok (mv := mv) T hvs hB hMs
      refine ⟨R.tr, R.ext, R.bears, R.fail, fun h d hd => ?_⟩
      rcases List.mem_cons.mp hd with q | q
      · rw [q]; exact .inl e
      · exact R.fix h d q
    | opn =>
      simp only [roundF, e]
      have R := round_ok (mv := mv) T hvs hB hMs
      refine ⟨R.tr, R.ext, R.bears, R.fail, fun h d hd => ?_⟩
      rcases List.mem_cons.mp hd with q | q
      · rw [q]; exact .inr e
      · exact R.fix h d q

structure PropOk (n k : Nat) (P : (Nat → Bool) → Prop) (cs : List (List Int)) (O : List Int) (r : List Int × List Int × Bool) : Prop where
  tr : Tr n r.1 r.2.1
  ext : ∃ X, r.2.1 = O ++ X
  bears : Bears P r.2.1
  fail : r.2.2 = false → ∀ M, ¬ P M
  fix : r.2.2 = true → O.length + k ≤ r.2.1.length ∨ ∀ c ∈ cs, clauseState c r.1 = .tru ∨ clauseState c r.1 = .opn

theorem prop_ok {n : Nat} {P : (Nat → Bool) → Prop} {cs : List (List Int)} (hv : ValidCs n cs) (hM : ∀ M, P M → Models M cs) : ∀ {k : Nat} {W O : List Int}, Tr n W O → Bears P O → PropOk n k P cs O (propF k cs W O)
  | 0, W, O, T, hB => ⟨T, ⟨[], by simp [propF]⟩, hB, fun h => by simp [propF] at h, fun _ => .inl (Nat.le_refl _)⟩
  | k + 1, W, O, T, hB => by
    have R := round_ok (mv := false) T hv hB hM
    unfold propF
    split
    · rename_i W' O' e
      rw [e] at R
      obtain ⟨X, eX, _, _⟩ := R.ext
      exact ⟨R.tr, ⟨X, eX⟩, R.bears, fun _ => R.fail rfl, fun h => by simp at h⟩
    · rename_i W' O' e
      rw [e] at R
      obtain ⟨X, eX, _, h2⟩ := R.ext
      obtain ⟨_, rX, rW⟩ := h2 rfl
      refine ⟨R.tr, ⟨X, eX⟩, R.bears, fun h => by simp at h, fun _ => .inr ?_⟩
      have := R.fix rfl
      simp only at rW
      subst rW
      exact this
    · rename_i W' O' e
      rw [e] at R
      obtain ⟨X, eX, h1, _⟩ := R.ext
      have hX : 0 < X.length := (h1 rfl).resolve_left (by simp)
      have R' := prop_ok hv hM (k := k) R.tr R.bears
      obtain ⟨Y, eY⟩ := R'.ext
      simp only at eX eY
      subst eX
      refine ⟨R'.tr, ⟨X ++ Y, by rw [eY]; simp⟩, R'.bears, R'.fail, fun h => ?_⟩
      rcases R'.fix h with q | q
      · left
        simp only [List.length_append] at q
        (first | lia | omega)
      · exact .inr q


/-! ## the truth table -/

theorem bitsOf_length : ∀ (k n : Nat), (bitsOf k n).length = n
  | _, 0 => rfl
  | k, n + 1 => by simp [bitsOf, bitsOf_length (k / 2) n]

theorem bitsOf_getD : ∀ (n k i : Nat), i < n → (bitsOf k n).getD i 0 = if k / 2 ^ i % 2 = 1 then 1 else -1
  | 0, _, _, h => absurd h (Nat.not_lt_zero _)
  | n + 1, k, 0, _ => by simp [bitsOf]
  | n + 1, k, i + 1, h => by
    have := bitsOf_getD n (k / 2) i (by (first | lia | omega))
    simp only [bitsOf, List.getD_cons_succ, this, Nat.div_div_eq_div_mul]
    rw [Nat.pow_succ, Nat.mul_comm 2]

def numOf : Nat → (Nat → Bool) → Nat
  | 0, _ => 0
  | n + 1, M => (if M 1 then 1 else 0) + 2 * numOf n (fun v => M (v + 1))
theorem numOf_lt : ∀ (n : Nat) (M : Nat → Bool), numOf n M < 2 ^ n
  | 0, _ => by simp [numOf]
  | n + 1, M => by
    have := numOf_lt n (fun v => M (v + 1))
    simp only [numOf, Nat.pow_succ]
    split <;> (first | lia | omega)
theorem numOf_bits : ∀ (n : Nat) (M : Nat → Bool) (i : Nat), i < n → numOf n M / 2 ^ i % 2 = if M (i + 1) then 1 else 0
  | 0, _, _, h => absurd h (Nat.not_lt_zero _)
  | n + 1, M, 0, _ => by
    simp only [numOf, Nat.pow_zero, Nat.div_one, Nat.zero_add]
    split <;> (first | lia | omega)
  | n + 1, M, i + 1, h => by
    have := numOf_bits n (fun v => M (v + 1)) i (by (first | lia | omega))
    simp only [numOf]
    rw [Nat.pow_succ, Nat.mul_comm (2 ^ i) 2, ← Nat.div_div_eq_div_mul]
    have e : ((if M 1 = true then 1 else 0) + 2 * numOf n (fun v => M (v + 1))) / 2 = numOf n (fun v => M (v + 1)) := by split <;> (first | lia | omega)
    rw [e]; exact this

/-- the model that a number stands for -/
def modelOf (k : Nat) (v : Nat) : Bool := k / 2 ^ (v - 1) % 2 == 1

theorem litVal_values {n k : Nat} {l : Int} (h : Valid n l) : litVal l (valuesOf k n) = 1 ↔ Sat (modelOf k) l := by
  obtain ⟨h0, h1⟩ := h
  have key : ∀ i, i < n → (valuesOf k n).getD (i + 1) 0 = if k / 2 ^ i % 2 = 1 then 1 else -1 := fun i hi => by
    simp only [valuesOf, List.getD_cons_succ]; exact bitsOf_getD n k i hi
  unfold litVal Sat modelOf
  by_cases hp : 0 < l
  · simp only [if_pos hp]
    have e : l.toNat = (l.natAbs - 1) + 1 := by (first | lia | omega)
    rw [e, key _ (by (first | lia | omega))]
    by_cases q : k / 2 ^ (l.natAbs - 1) % 2 = 1
    · simp [q]
    · simp [q]
  · simp only [if_neg hp]
    have e : (-l).toNat = (l.natAbs - 1) + 1 := by (first | lia | omega)
    rw [e, key _ (by (first | lia | omega))]
    by_cases q : k / 2 ^ (l.natAbs - 1) % 2 = 1
    · simp [q]
    · simp [q]

theorem isTru_iff {c W : List Int} : (clauseState c W).isTru = true ↔ ∃ l ∈ c, litVal l W = 1 := by
  constructor
  · intro h
    cases e : clauseState c W <;> rw [e] at h <;> first | exact clause_tru e | cases h
  · rintro ⟨l, hl, h⟩
    unfold clauseState
    rw [if_pos (List.any_eq_true.mpr ⟨l, hl, by simpa using h⟩)]
    rfl

theorem satisfies_iff {n k : Nat} {cs : List (List Int)} (hv : ValidCs n cs) : satisfies (valuesOf k n) cs = true ↔ Models (modelOf k) cs := by
  unfold satisfies Models
  rw [List.all_eq_true]
  constructor
  · intro h c hc
    obtain ⟨l, hl, e⟩ := isTru_iff.mp (h c hc)
    exact ⟨l, hl, (litVal_values (hv c hc l hl)).mp e⟩
  · intro h c hc
    obtain ⟨l, hl, e⟩ := h c hc
    exact isTru_iff.mpr ⟨l, hl, (litVal_values (hv c hc l hl)).mpr e⟩

theorem sat_congr {n : Nat} {M M' : Nat → Bool} (h : ∀ v, 1 ≤ v → v ≤ n → M v = M' v) {l : Int} (hl : Valid n l) : Sat M l ↔ Sat M' l := by
  unfold Sat
  rw [h l.natAbs (by have := hl.1; (first | lia | omega)) hl.2]
theorem models_congr {n : Nat} {M M' : Nat → Bool} (h : ∀ v, 1 ≤ v → v ≤ n → M v = M' v) {cs : List (List Int)} (hv : ValidCs n cs) (hM : Models M cs) : Models M' cs := fun c hc =>
  let ⟨l, hl, e⟩ := hM c hc
  ⟨l, hl, (sat_congr h (hv c hc l hl)).mp e⟩

theorem modelOf_num {n : Nat} {M : Nat → Bool} : ∀ v, 1 ≤ v → v ≤ n → M v = modelOf (numOf n M) v := fun v h1 h2 => by
  unfold modelOf
  rw [numOf_bits n M (v - 1) (by (first | lia | omega)), Nat.sub_add_cancel h1]
  cases M v <;> rfl

theorem truthTable_iff {n : Nat} {cs : List (List Int)} (hv : ValidCs n cs) : truthTable cs n = true ↔ ∃ M, Models M cs := by
  unfold truthTable
  rw [List.any_eq_true]
  constructor
  · rintro ⟨k, _, h⟩
    exact ⟨_, (satisfies_iff hv).mp h⟩
  · rintro ⟨M, hM⟩
    exact ⟨numOf n M, List.mem_range.mpr (numOf_lt n M), (satisfies_iff hv).mpr (models_congr modelOf_num hv hM)⟩

/-! ## the law's own count of models -/

def truthsOf (k n : Nat) : List Int := (List.range n).map fun (i : Nat) => ((i : Int) + 1) * (2 * ((k / 2 ^ i % 2 : Nat) : Int) - 1)
def lawHolds (cs : List (List Int)) (n k : Nat) : Bool := cs.all fun c => c.any fun l => (truthsOf k n).contains l

theorem mem_truths {n k : Nat} {l : Int} (hl : Valid n l) : l ∈ truthsOf k n ↔ Sat (modelOf k) l := by
  unfold truthsOf Sat modelOf
  obtain ⟨h0, h1⟩ := hl
  rw [List.mem_map]
  constructor
  · rintro ⟨i, _, e⟩
    have hb : k / 2 ^ i % 2 = 0 ∨ k / 2 ^ i % 2 = 1 := by (first | lia | omega)
    rcases hb with q | q
    · rw [q] at e
      have ei : l.natAbs - 1 = i := by simp at e; (first | lia | omega)
      have hp : ¬ (0 < l) := by simp at e; (first | lia | omega)
      rw [if_neg hp, ei, q]; rfl
    · rw [q] at e
      have ei : l.natAbs - 1 = i := by simp at e; (first | lia | omega)
      have hp : 0 < l := by simp at e; (first | lia | omega)
      rw [if_pos hp, ei, q]; rfl
  · intro h
    refine ⟨l.natAbs - 1, List.mem_range.mpr (by (first | lia | omega)), ?_⟩
    have hb : k / 2 ^ (l.natAbs - 1) % 2 = 0 ∨ k / 2 ^ (l.natAbs - 1) % 2 = 1 := by (first | lia | omega)
    by_cases hp : 0 < l
    · rw [if_pos hp] at h
      have q : k / 2 ^ (l.natAbs - 1) % 2 = 1 := by simpa using h
      rw [q]; simp; (first | lia | omega)
    · rw [if_neg hp] at h
      have q : k / 2 ^ (l.natAbs - 1) % 2 = 0 := by
        rcases hb with r | r
        · exact r
        · rw [r] at h; cases h
      rw [q]; simp; (first | lia | omega)

theorem lawHolds_iff {n k : Nat} {cs : List (List Int)} (hv : ValidCs n cs) : lawHolds cs n k = true ↔ Models (modelOf k) cs := by
  unfold lawHolds Models
  rw [List.all_eq_true]
  refine forall_congr' fun c => forall_congr' fun hc => ?_
  rw [List.any_eq_true]
  constructor
  · rintro ⟨l, hl, e⟩
    exact ⟨l, hl, (mem_truths (hv c hc l hl)).mp (by simpa using e)⟩
  · rintro ⟨l, hl, e⟩
    exact ⟨l, hl, by simpa using (mem_truths (hv c hc l hl)).mpr e⟩

theorem due_eq {n : Nat} {cs : List (List Int)} (hv : ValidCs n cs) : truthTable cs n = decide (0 < ((List.range (2 ^ n)).filter (lawHolds cs n)).length) := by
  have e : truthTable cs n = true ↔ 0 < ((List.range (2 ^ n)).filter (lawHolds cs n)).length := by
    rw [List.length_pos_iff_exists_mem]
    unfold truthTable
    rw [List.any_eq_true]
    constructor
    · rintro ⟨k, hk, h⟩
      exact ⟨k, List.mem_filter.mpr ⟨hk, (lawHolds_iff hv).mpr ((satisfies_iff hv).mp h)⟩⟩
    · rintro ⟨k, hk⟩
      obtain ⟨a, b⟩ := List.mem_filter.mp hk
      exact ⟨k, a, (satisfies_iff hv).mpr ((lawHolds_iff hv).mp b)⟩
  by_cases h : truthTable cs n = true
  · rw [h]; exact (decide_eq_true (e.mp h)).symm
  · have h' : truthTable cs n = false := by simpa using h
    rw [h']; exact (decide_eq_false fun q => h (e.mpr q)).symm

theorem pigeon : ∀ (n : Nat) (l : List Nat), l.Nodup → (∀ x ∈ l, x < n) → l.length ≤ n
  | 0, l, _, h => by
    cases l with
    | nil => simp
    | cons a t => exact absurd (h a List.mem_cons_self) (Nat.not_lt_zero _)
  | n + 1, l, hd, h => by
    by_cases hm : n ∈ l
    · have h1 := pigeon n (l.erase n) (hd.erase n) (fun x hx => by
        have hx' := (List.Nodup.mem_erase_iff hd).mp hx
        have := h x hx'.2
        have := hx'.1
        (first | lia | omega))
      rw [List.length_erase_of_mem hm] at h1
      (first | lia | omega)
    · have h1 := pigeon n l hd (fun x hx => by
        have := h x hx
        have : x ≠ n := fun e => hm (e ▸ hx)
        (first | lia | omega))
      (first | lia | omega)

theorem Tr.length_le {n : Nat} {W O : List Int} (T : Tr n W O) : O.length ≤ n := by
  have key : ∀ (O : List Int), O.Nodup → (∀ l ∈ O, -l ∉ O) → (∀ l ∈ O, Valid n l) → (O.map fun l => l.natAbs - 1).Nodup := by
    intro O
    induction O with
    | nil => intros; simp
    | cons a t ih =>
      intro h1 h2 h3
      rw [List.map_cons, List.nodup_cons]
      refine ⟨?_, ih (List.nodup_cons.mp h1).2 (fun l hl q => h2 l (List.mem_cons_of_mem _ hl) (List.mem_cons_of_mem _ q)) fun l hl => h3 l (List.mem_cons_of_mem _ hl)⟩
      intro q
      obtain ⟨b, hb, e⟩ := List.mem_map.mp q
      have va := h3 a List.mem_cons_self
      have vb := h3 b (List.mem_cons_of_mem _ hb)
      have := va.1; have := vb.1
      have : b = a ∨ b = -a := by (first | lia | omega)
      rcases this with r | r
      · exact (List.nodup_cons.mp h1).1 (r ▸ hb)
      · exact h2 a List.mem_cons_self (List.mem_cons_of_mem _ (r ▸ hb))
  have := pigeon n _ (key O T.nodup T.anti T.val) (fun x hx => by
    obtain ⟨b, hb, e⟩ := List.mem_map.mp hx
    have vb := T.val b hb
    have := vb.1; have := vb.2
    (first | lia | omega))
  simpa using this

theorem start_tr (n : Nat) : Tr n (List.replicate (n + 1) 0) [] := by
  have z : ∀ l, Valid n l → litVal l (List.replicate (n + 1) 0) = 0 := fun l hl => by
    have := hl.1; have := hl.2
    unfold litVal
    simp only [List.getD_eq_getElem?_getD, List.getElem?_replicate]
    split <;> split <;> rfl
  refine ⟨by simp, by simp, by simp, by simp, fun l hl => ?_, fun l hl => ?_⟩
  · rw [z l hl]; simp
  · rw [z l hl]; simp

/-! ## the checker -/

def assumeF : List Int → List Int → List Int → Option (List Int × List Int)
  | [], W, O => some (W, O)
  | l :: ls, W, O => if litVal l W = 1 then none else if litVal l W = 0 then assumeF ls (setW W (-l)) (O ++ [-l]) else assumeF ls W O

def followsF (cs : List (List Int)) (n : Nat) (c : List Int) : Bool := match assumeF c (List.replicate (n + 1) 0) [] with
  | none => true
  | some (W, O) => !(propF (n + 1) cs W O).2.2

def stepsF (n : Nat) : List (List Int) → List (List Int) → Bool
  | _, [] => true
  | known, p :: r => if followsF known n p then stepsF n (known ++ [p]) r else false

def checksF (cs : List (List Int)) (n : Nat) (proof : List (List Int)) : Bool := stepsF n cs proof && (decide (0 < proof.length) && decide ((proof.getLastD []).length = 0))

theorem assume_ok {n : Nat} {P : (Nat → Bool) → Prop} : ∀ {c W O : List Int}, Tr n W O → ValidC n c → Bears P O → (∀ M, P M → ∀ l ∈ c, ¬ Sat M l) →
    (assumeF c W O = none → ∀ M, ¬ P M) ∧ ∀ W' O', assumeF c W O = some (W', O') → Tr n W' O' ∧ Bears P O' ∧ ∀ x ∈ O, x ∈ O'
  | [], W, O, T, _, hB, _ => ⟨fun h => by simp [assumeF] at h, fun W' O' h => by
      simp only [assumeF, Option.some.injEq, Prod.mk.injEq] at h
      obtain ⟨rfl, rfl⟩ := h
      exact ⟨T, hB, fun _ h => h⟩⟩
  | l :: c, W, O, T, hv, hB, hP => by
    have hl := hv l List.mem_cons_self
    have hvc : ValidC n c := fun x hx => hv x (List.mem_cons_of_mem _ hx)
    have hPc : ∀ M, P M → ∀ l ∈ c, ¬ Sat M l := fun M hM x hx => hP M hM x (List.mem_cons_of_mem _ hx)
    unfold assumeF
    by_cases h1 : litVal l W = 1
    · rw [if_pos h1]
      refine ⟨fun _ M hM => hP M hM l List.mem_cons_self (hB M hM l ((T.one l hl).mp h1)), fun _ _ h => by cases h⟩
    · rw [if_neg h1]
      by_cases h0 : litVal l W = 0
      · rw [if_pos h0]
        have T' := T.snoc hl.neg (by rw [litVal_neg hl.1, h0]; rfl)
        have hB' : Bears P (O ++ [-l]) := fun M hM x hx => by
          rcases List.mem_append.mp hx with q | q
          · exact hB M hM x q
          · rw [List.mem_singleton.mp q, sat_neg hl.1]; exact hP M hM l List.mem_cons_self
        obtain ⟨a, b⟩ := assume_ok T' hvc hB' hPc
        refine ⟨a, fun W' O' h => ?_⟩
        obtain ⟨x, y, z⟩ := b W' O' h
        exact ⟨x, y, fun v hv => z v (List.mem_append_left _ hv)⟩
      · rw [if_neg h0]
        exact assume_ok T hvc hB hPc

theorem follows_sound {n : Nat} {cs : List (List Int)} {c : List Int} (hv : ValidCs n cs) (hc : ValidC n c) (h : followsF cs n c = true) (M : Nat → Bool) (hM : Models M cs) : ∃ l ∈ c, Sat M l := by
  refine Classical.byContradiction fun no => ?_
  have hP : ∀ m, (Models m cs ∧ ∀ l ∈ c, ¬ Sat m l) → ∀ l ∈ c, ¬ Sat m l := fun m hm => hm.2
  have me : Models M cs ∧ ∀ l ∈ c, ¬ Sat M l := ⟨hM, fun l hl hs => no ⟨l, hl, hs⟩⟩
  have hB : Bears (fun m => Models m cs ∧ ∀ l ∈ c, ¬ Sat m l) [] := fun _ _ _ h => nomatch h
  obtain ⟨a, b⟩ := assume_ok (P := fun m => Models m cs ∧ ∀ l ∈ c, ¬ Sat m l) (start_tr n) hc hB hP
  unfold followsF at h
  split at h
  · rename_i e; exact a e M me
  · rename_i W O e
    obtain ⟨T, hB', _⟩ := b W O e
    have R := prop_ok (k := n + 1) hv (fun m (hm : Models m cs ∧ ∀ l ∈ c, ¬ Sat m l) => hm.1) T hB'
    exact R.fail (by simpa using h) M me

theorem steps_sound {n : Nat} {M : Nat → Bool} : ∀ {proof cs : List (List Int)}, ValidCs n cs → ValidCs n proof → stepsF n cs proof = true → Models M cs → Models M proof
  | [], _, _, _, _, _ => fun _ h => nomatch h
  | p :: r, cs, hv, hp, h, hM => by
    unfold stepsF at h
    split at h
    · rename_i hf
      have hpv := hp p List.mem_cons_self
      have hs := follows_sound hv hpv hf M hM
      have hv' : ValidCs n (cs ++ [p]) := fun c hc => by
        rcases List.mem_append.mp hc with q | q
        · exact hv c q
        · rw [List.mem_singleton.mp q]; exact hpv
      have hM' : Models M (cs ++ [p]) := fun c hc => by
        rcases List.mem_append.mp hc with q | q
        · exact hM c q
        · rw [List.mem_singleton.mp q]; exact hs
      have R := steps_sound hv' (fun c hc => hp c (List.mem_cons_of_mem _ hc)) h hM'
      intro c hc
      rcases List.mem_cons.mp hc with q | q
      · rw [q]; exact hs
      · exact R c q
    · cases h

theorem checks_sound {n : Nat} {cs proof : List (List Int)} (hv : ValidCs n cs) (hp : ValidCs n proof) (h : checksF cs n proof = true) : ¬ ∃ M, Models M cs := by
  rintro ⟨M, hM⟩
  unfold checksF at h
  simp only [Bool.and_eq_true, decide_eq_true_eq] at h
  obtain ⟨h1, h2, h3⟩ := h
  have R := steps_sound hv hp h1 hM
  have hne : proof ≠ [] := by intro e; rw [e] at h2; simp at h2
  obtain ⟨r, p, e⟩ := List.eq_nil_or_concat proof |>.resolve_left hne
  subst e
  simp only [List.concat_eq_append] at h3 R
  have hpn : p = [] := by simpa using h3
  obtain ⟨l, hl, _⟩ := R p (by simp)
  rw [hpn] at hl; cases hl

/-- the checker's law -/
theorem checker_sound {n : Nat} {cs proof : List (List Int)} (hv : ValidCs n cs) (hp : ValidCs n proof) : (!checksF cs n proof || !truthTable cs n) = true := by
  cases h : checksF cs n proof with
  | false => rfl
  | true =>
    have := checks_sound hv hp h
    rw [← truthTable_iff hv] at this
    simp [this]

/-- no conflict: every clause is true or open -/
theorem no_conflict {n : Nat} {cs : List (List Int)} {W O : List Int} (hv : ValidCs n cs) (T : Tr n W O) (h : (propF (n + 1) cs W O).2.2 = true) :
    ∃ W' O', Tr n W' O' ∧ (∀ x ∈ O, x ∈ O') ∧ ∀ c ∈ cs, clauseState c W' = .tru ∨ clauseState c W' = .opn := by
  have R := prop_ok (k := n + 1) (P := fun _ => False) hv (fun _ h => h.elim) T (fun _ h => h.elim)
  obtain ⟨X, eX⟩ := R.ext
  refine ⟨_, _, R.tr, fun x hx => by rw [eX]; exact List.mem_append_left _ hx, ?_⟩
  rcases R.fix h with q | q
  · have := R.tr.length_le; (first | lia | omega)
  · exact q

theorem two_or {n : Nat} {W O : List Int} {x y : Int} (T : Tr n W O) (hx : Valid n x) (hy : Valid n y) (hf : -x ∈ O) (h : clauseState [x, y] W = .tru ∨ clauseState [x, y] W = .opn) : y ∈ O := by
  have xn1 : litVal x W ≠ 1 := fun q => T.anti x ((T.one x hx).mp q) hf
  have xn0 : litVal x W ≠ 0 := fun q => ((T.zero x hx).mp q).2 hf
  rcases h with h | h
  · obtain ⟨l, hl, e⟩ := clause_tru h
    rcases List.mem_cons.mp hl with q | q
    · subst q; exact absurd e xn1
    · have := List.mem_singleton.mp q
      subst this; exact (T.one l hy).mp e
  · obtain ⟨l, hl, l', hl', hne, e, e'⟩ := clause_opn h
    rcases List.mem_cons.mp hl with q | q
    · subst q; exact absurd e xn0
    · rcases List.mem_cons.mp hl' with r | r
      · subst r; exact absurd e' xn0
      · exact absurd ((List.mem_singleton.mp q).trans (List.mem_singleton.mp r).symm) hne

theorem one_or {n : Nat} {W O : List Int} {x : Int} (T : Tr n W O) (hx : Valid n x) (h : clauseState [x] W = .tru ∨ clauseState [x] W = .opn) : x ∈ O := by
  rcases h with h | h
  · obtain ⟨l, hl, e⟩ := clause_tru h
    have := List.mem_singleton.mp hl
    subst this; exact (T.one l hx).mp e
  · obtain ⟨l, hl, l', hl', hne, _⟩ := clause_opn h
    exact absurd ((List.mem_singleton.mp hl).trans (List.mem_singleton.mp hl').symm) hne

theorem clash_refuted {n : Nat} {cs : List (List Int)} {a b : Int} (hv : ValidCs n cs) (ha : Valid n a) (hb : Valid n b) : checksF (cs ++ [[a, b], [a, -b], [-a, b], [-a, -b]]) n [[-a], []] = true := by
  have hv' : ValidCs n (cs ++ [[a, b], [a, -b], [-a, b], [-a, -b]]) := fun c hc l hl => by
    rcases List.mem_append.mp hc with q | q
    · exact hv c q l hl
    · have : l = a ∨ l = -a ∨ l = b ∨ l = -b := by
        simp only [List.mem_cons, List.not_mem_nil, or_false] at q
        rcases q with q | q | q | q <;> rw [q] at hl <;> simp at hl <;> rcases hl with r | r <;> simp [r]
      rcases this with r | r | r | r <;> rw [r] <;> first | exact ha | exact ha.neg | exact hb | exact hb.neg
  have f1 : followsF (cs ++ [[a, b], [a, -b], [-a, b], [-a, -b]]) n [-a] = true := by
    have T := start_tr n
    have z : litVal (-a) (List.replicate (n + 1) 0) = 0 := (T.zero (-a) ha.neg).mpr ⟨by simp, by simp⟩
    have z1 : ¬ litVal (-a) (List.replicate (n + 1) 0) = 1 := by rw [z]; decide
    unfold followsF
    simp only [assumeF, if_neg z1, if_pos z, Int.neg_neg, List.nil_append]
    have T' := T.snoc ha (by rw [← Int.neg_neg a, litVal_neg ha.neg.1, z]; rfl)
    rw [List.nil_append] at T'
    cases h : (propF (n + 1) (cs ++ [[a, b], [a, -b], [-a, b], [-a, -b]]) (setW (List.replicate (n + 1) 0) a) [a]).2.2 with
    | false => rfl
    | true =>
      exfalso
      obtain ⟨W', O', T2, sub, all⟩ := no_conflict hv' T' h
      have hao : -(-a) ∈ O' := by rw [Int.neg_neg]; exact sub a (by simp)
      have h1 := two_or T2 ha.neg hb hao (all [-a, b] (by simp))
      have h2 := two_or T2 ha.neg hb.neg hao (all [-a, -b] (by simp))
      exact T2.anti b h1 h2
  have hv2 : ValidCs n (cs ++ [[a, b], [a, -b], [-a, b], [-a, -b]] ++ [[-a]]) := fun c hc => by
    rcases List.mem_append.mp hc with q | q
    · exact hv' c q
    · rw [List.mem_singleton.mp q]; intro l hl; rw [List.mem_singleton.mp hl]; exact ha.neg
  have f2 : followsF (cs ++ [[a, b], [a, -b], [-a, b], [-a, -b]] ++ [[-a]]) n [] = true := by
    unfold followsF
    simp only [assumeF]
    cases h : (propF (n + 1) (cs ++ [[a, b], [a, -b], [-a, b], [-a, -b]] ++ [[-a]]) (List.replicate (n + 1) 0) []).2.2 with
    | false => rfl
    | true =>
      exfalso
      obtain ⟨W', O', T2, _, all⟩ := no_conflict hv2 (start_tr n) h
      have hna : -a ∈ O' := one_or T2 ha.neg (all [-a] (by simp))
      have h1 := two_or T2 ha hb hna (all [a, b] (by simp))
      have h2 := two_or T2 ha hb.neg hna (all [a, -b] (by simp))
      exact T2.anti b h1 h2
  unfold checksF stepsF stepsF stepsF
  rw [if_pos f1, if_pos f2]
  rfl

/-! ## the law's own brute force -/
def trueLits (k n : Nat) : List Int := (List.range n).map fun (i : Nat) => ((i : Int) + 1) * (1 - 2 * ((k / 2 ^ i % 2 : Nat) : Int))
def hasModel (cs : List (List Int)) (n : Nat) : Bool := (List.range (2 ^ n)).any fun k => cs.all fun c => c.any fun l => (trueLits k n).contains l

theorem mem_trueLits {n k : Nat} {l : Int} (hl : Valid n l) : l ∈ trueLits k n ↔ Sat (fun v => !modelOf k v) l := by
  unfold trueLits Sat modelOf
  dsimp only
  obtain ⟨h0, h1⟩ := hl
  rw [List.mem_map]
  constructor
  · rintro ⟨i, _, e⟩
    have hb : k / 2 ^ i % 2 = 0 ∨ k / 2 ^ i % 2 = 1 := by (first | lia | omega)
    rcases hb with q | q
    · rw [q] at e
      have ei : l.natAbs - 1 = i := by simp at e; (first | lia | omega)
      have hp : 0 < l := by simp at e; (first | lia | omega)
      rw [if_pos hp, ei, q]; rfl
    · rw [q] at e
      have ei : l.natAbs - 1 = i := by simp at e; (first | lia | omega)
      have hp : ¬ (0 < l) := by simp at e; (first | lia | omega)
      rw [if_neg hp, ei, q]; rfl
  · intro h
    refine ⟨l.natAbs - 1, List.mem_range.mpr (by (first | lia | omega)), ?_⟩
    have hb : k / 2 ^ (l.natAbs - 1) % 2 = 0 ∨ k / 2 ^ (l.natAbs - 1) % 2 = 1 := by (first | lia | omega)
    by_cases hp : 0 < l
    · rw [if_pos hp] at h
      have q : k / 2 ^ (l.natAbs - 1) % 2 = 0 := by
        rcases hb with r | r
        · exact r
        · rw [r] at h; cases h
      rw [q]; simp; (first | lia | omega)
    · rw [if_neg hp] at h
      have q : k / 2 ^ (l.natAbs - 1) % 2 = 1 := by
        rcases hb with r | r
        · rw [r] at h; cases h
        · exact r
      rw [q]; simp; (first | lia | omega)

theorem hasModel_iff {n : Nat} {cs : List (List Int)} (hv : ValidCs n cs) : hasModel cs n = true ↔ ∃ M, Models M cs := by
  have one : ∀ k, (cs.all fun c => c.any fun l => (trueLits k n).contains l) = true ↔ Models (fun v => !modelOf k v) cs := fun k => by
    unfold Models
    rw [List.all_eq_true]
    refine forall_congr' fun c => forall_congr' fun hc => ?_
    rw [List.any_eq_true]
    constructor
    · rintro ⟨l, hl, e⟩
      exact ⟨l, hl, (mem_trueLits (hv c hc l hl)).mp (by simpa using e)⟩
    · rintro ⟨l, hl, e⟩
      exact ⟨l, hl, by simpa using (mem_trueLits (hv c hc l hl)).mpr e⟩
  unfold hasModel
  rw [List.any_eq_true]
  constructor
  · rintro ⟨k, _, h⟩
    exact ⟨_, (one k).mp h⟩
  · rintro ⟨M, hM⟩
    refine ⟨numOf n (fun v => !M v), List.mem_range.mpr (numOf_lt _ _), (one _).mpr (models_congr (fun v h1 h2 => ?_) hv hM)⟩
    rw [← modelOf_num (M := fun v => !M v) v h1 h2]; simp

theorem hasModel_eq {n : Nat} {cs : List (List Int)} (hv : ValidCs n cs) : truthTable cs n = hasModel cs n := by
  have a := truthTable_iff hv
  have b := hasModel_iff hv
  cases h : truthTable cs n <;> cases h' : hasModel cs n <;> simp_all

end Mine
namespace Mine
open PySem PyProof.Rows

/-- all that is there stays -/
abbrev Keep (h h' : Heap) : Prop := ∀ b o, h.get? b = some o → h'.get? b = some o
theorem Keep.refl (h : Heap) : Keep h h := fun _ _ e => e
theorem Keep.trans {a b c : Heap} (x : Keep a b) (y : Keep b c) : Keep a c := fun d o e => y d o (x d o e)

/-- nothing but heap and tokens is turned -/
structure Same (s s' : Shared) : Prop where
  gens : s'.gens = s.gens
  drawn : s'.drawn = s.drawn
  os : s'.os = s.os
theorem Same.refl (s : Shared) : Same s s := ⟨rfl, rfl, rfl⟩
theorem Same.of (s : Shared) (h : Heap) (t : Nat) : Same s { s with heap := h, toks := t } := ⟨rfl, rfl, rfl⟩
theorem Same.trans {a b c : Shared} (x : Same a b) (y : Same b c) : Same a c := ⟨y.gens.trans x.gens, y.drawn.trans x.drawn, y.os.trans x.os⟩
theorem Same.set {a b : Shared} (x : Same a b) (h : Heap) (t : Nat) : Same a { b with heap := h, toks := t } := ⟨x.gens, x.drawn, x.os⟩
theorem Same.eq {s s' : Shared} (x : Same s s') : s' = { s with heap := s'.heap, toks := s'.toks } := by
  obtain ⟨h, g, d, t, o⟩ := s
  obtain ⟨h', g', d', t', o'⟩ := s'
  obtain ⟨a, b, c⟩ := x
  cases a; cases b; cases c
  rfl

section
variable {prog : Program} {w : World} {A : Around} {E : Value → Shared → Prop} {s : Shared} {env : Env}

theorem loop_of {g : Heap} {x : Str} {px : Pos} {body : List Stmt} {I : Addr} {fp wr : List Addr} {n : Nat} {P : Nat → Value → Prop} {St : Nat → Heap → Prop} {Q : Flow → Shared → Prop} {R : Value → Shared → Prop}
    {m₀ : Str → Option Value} (J : Nat → (Str → Option Value) → Shared → Prop)
    (W : Walks prog w A I fp wr n P St) (hLf : env.locals ∉ fp) (hwr : ∀ b ∈ wr, g.get? b = none)
    (hx : env.kindOf x = some .local) (hp : (env.scope.kind == .class || (env.scope.kind == .module && env.locals != env.globals)) = false)
    (hst : St 0 s.heap) (F : Fr g env.locals s.heap m₀) (h0 : J 0 m₀ s)
    (hJ : ∀ i m s h' tk, J i m s → (∀ b o, b ∉ wr → b ≠ env.locals → s.heap.get? b = some o → h'.get? b = some o) → J i m { s with heap := h', toks := tk })
    (turn : ∀ i v m s₁ E', i < n → P i v → J i m s₁ → Fr g env.locals s₁.heap (fun y => if y = x then some v else m y) → St (i + 1) s₁.heap →
      wpAny (model prog w) A (execs body env) (fun f s' => match f with
        | .next | .cont => ∃ m', Fr g env.locals s'.heap m' ∧ (∀ b ∈ fp, ∀ o, s₁.heap.get? b = some o → s'.heap.get? b = some o) ∧ J (i + 1) m' s'
        | .brk => Q .next s'
        | .ret v => Q (.ret v) s') E' s₁)
    (done : ∀ m s', J n m s' → Fr g env.locals s'.heap m → Q .next s') :
    codeAny (model prog w) A (.forLoop (.Name x px) (.ref I) body [] env) (fun r s' => match r with | .ok f => Q f s' | .error e => R e s') s := by
  have hCw : env.locals ∉ wr := fun h => hLf (W.sub _ h)
  refine codeAny_forLoop (fun k s' => ∃ i m, Fr g env.locals s'.heap m ∧ St i s'.heap ∧ J i m s' ∧ i ≤ n ∧ k = n + 1 - i) ?_ (n + 1) ⟨0, m₀, F, hst, h0, Nat.zero_le _, rfl⟩
  rintro k s' ⟨i, m, F', hst', hJi, hi, rfl⟩
  have moved : ∀ {h₁ : Heap}, (∀ b o, b ∉ wr → s'.heap.get? b = some o → h₁.get? b = some o) → Fr g env.locals h₁ m := fun {h₁} hk => by
    obtain ⟨oL, es, ep, hL, r⟩ := F'.ns
    refine ⟨⟨oL, es, ep, hk _ _ hCw hL, r⟩, fun b o e => hk b o (fun hb => ?_) (F'.keep b o e), F'.above⟩
    rw [hwr b hb] at e; cases e
  by_cases hlt : i < n
  · refine W.item i _ _ _ hlt hst' fun v h₁ tk₁ hP hst₁ hk₁ => ?_
    have F₁ := moved hk₁
    refine wpAny_assign_Name (wpAny_storeName_local hx F₁.ns (fun h₂ hn₂ hs₂ => ?_) hp)
    have F₂ := F₁.set hn₂ hs₂
    have hst₂ : St (i + 1) h₂ := W.frame _ _ _ hst₁ fun b hb o e => hs₂.extBut b o (fun h => hLf (h ▸ hb)) e
    refine wpAny_mono (turn i v m { s' with heap := h₂, toks := tk₁ + 1 } _ hlt hP (hJ i m s' h₂ (tk₁ + 1) hJi fun b o hb hbL e => hs₂.extBut b o hbL (hk₁ b o hb e)) F₂ hst₂) (fun f s₃ h₃ => ?_) fun _ _ e => e
    have fin : (∃ m', Fr g env.locals s₃.heap m' ∧ (∀ b ∈ fp, ∀ o, h₂.get? b = some o → s₃.heap.get? b = some o) ∧ J (i + 1) m' s₃) →
        ∃ k', k' < n + 1 - i ∧ ∃ i m, Fr g env.locals s₃.heap m ∧ St i s₃.heap ∧ J i m s₃ ∧ i ≤ n ∧ k' = n + 1 - i := by
      rintro ⟨m', F₃, hk₃, hJ₃⟩
      exact ⟨n + 1 - (i + 1), by (first | lia | omega), i + 1, m', F₃, W.frame _ _ _ hst₂ hk₃, hJ₃, hlt, rfl⟩
    cases f with
    | next => exact fin h₃
    | cont => exact fin h₃
    | brk => exact h₃
    | ret v => exact h₃
  · have hin : i = n := by (first | lia | omega)
    subst hin
    refine W.done _ _ _ hst' fun h₁ tk₁ hk₁ => wpAny_execs_nil ?_
    exact done m _ (hJ i m s' h₁ tk₁ hJi fun b o hb _ e => hk₁ b o hb e) (moved hk₁)

theorem fresh_of {g h : Heap} (k : Keep g h) : g.get? h.objs.size = none := by
  cases e : g.get? h.objs.size with
  | none => rfl
  | some o => exact absurd (Heap.lt_size (k _ _ e)) (Nat.lt_irrefl _)

/-- over a list that stays as it is -/
theorem for_list {g : Heap} {x : Str} {px : Pos} {body : List Stmt} {l : Addr} {items : Array Value} {Q : Flow → Shared → Prop} {R : Value → Shared → Prop}
    {m₀ : Str → Option Value} (J : Nat → (Str → Option Value) → Shared → Prop)
    (hh : A.handled = none) (hl : s.heap.IsList l items) (hlL : l ≠ env.locals)
    (hx : env.kindOf x = some .local) (hp : (env.scope.kind == .class || (env.scope.kind == .module && env.locals != env.globals)) = false)
    (F : Fr g env.locals s.heap m₀) (h0 : ∀ h' tk, Keep s.heap h' → J 0 m₀ { s with heap := h', toks := tk })
    (hJ : ∀ i m s₁ h' tk, J i m s₁ → (∀ b o, b ≠ s.heap.objs.size → b ≠ env.locals → s₁.heap.get? b = some o → h'.get? b = some o) → J i m { s₁ with heap := h', toks := tk })
    (turn : ∀ i v m s₁ E', items[i]? = some v → J i m s₁ → Fr g env.locals s₁.heap (fun y => if y = x then some v else m y) → s₁.heap.IsList l items → (∃ o, s₁.heap.get? s.heap.objs.size = some o) →
      wpAny (model prog w) A (execs body env) (fun f s' => match f with
        | .next | .cont => ∃ m', Fr g env.locals s'.heap m' ∧ (∀ o, s₁.heap.get? s.heap.objs.size = some o → s'.heap.get? s.heap.objs.size = some o) ∧ (∀ o, s₁.heap.get? l = some o → s'.heap.get? l = some o) ∧ J (i + 1) m' s'
        | .brk => Q .next s'
        | .ret v => Q (.ret v) s') E' s₁)
    (done : ∀ m s', J items.size m s' → Fr g env.locals s'.heap m → Q .next s') :
    wpAny (model prog w) A (pyIter (.ref l)) (fun it s₂ => codeAny (model prog w) A (.forLoop (.Name x px) it body [] env) (fun r s' => match r with | .ok f => Q f s' | .error e => R e s') s₂) E s := by
  obtain ⟨ol, hol, _⟩ := id hl
  have hne : l ≠ s.heap.objs.size := Nat.ne_of_lt (Heap.lt_size hol)
  refine wpAny_pyIter_list hl ?_
  refine loop_of (n := items.size) J (Walks.list hh s.heap.objs.size l hne items) ?_ ?_ hx hp
    ⟨⟨_, Heap.get?_push_size _ rfl, rfl, rfl⟩, hl.at fun o e => Heap.get?_push_of_some _ e⟩ (F.push _) (h0 _ _ fun b o e => Heap.get?_push_of_some _ e) ?_ ?_ done
  · intro hm
    rcases List.mem_cons.mp hm with e | hm
    · exact absurd F.ns.lt (e ▸ Nat.lt_irrefl _)
    · exact hlL (List.mem_singleton.mp hm).symm
  · intro b hb
    rw [List.mem_singleton.mp hb]
    exact fresh_of F.keep
  · intro i m s₁ h' tk hj hk
    exact hJ i m s₁ h' tk hj fun b o hb hbL e => hk b o (fun hm => hb (List.mem_singleton.mp hm)) hbL e
  · intro i v m s₁ E' _ hP hj F₁ hst
    obtain ⟨oI, hoI, _⟩ := id hst.1
    refine wpAny_mono (turn i v m s₁ E' hP hj F₁ hst.2 ⟨oI, hoI⟩) (fun f s' h => ?_) fun _ _ e => e
    have fin : (∃ m', Fr g env.locals s'.heap m' ∧ (∀ o, s₁.heap.get? s.heap.objs.size = some o → s'.heap.get? s.heap.objs.size = some o) ∧ (∀ o, s₁.heap.get? l = some o → s'.heap.get? l = some o) ∧ J (i + 1) m' s') →
        ∃ m', Fr g env.locals s'.heap m' ∧ (∀ b ∈ [s.heap.objs.size, l], ∀ o, s₁.heap.get? b = some o → s'.heap.get? b = some o) ∧ J (i + 1) m' s' := by
      rintro ⟨m', F', k1, k2, j⟩
      refine ⟨m', F', fun b hb o e => ?_, j⟩
      rcases List.mem_cons.mp hb with q | q
      · subst q; exact k1 o e
      · rw [List.mem_singleton.mp q] at e ⊢; exact k2 o e
    cases f with
    | next => exact fin h
    | cont => exact fin h
    | brk => exact h
    | ret v => exact h

/-- over a range by ones -/
theorem for_range {g : Heap} {x : Str} {px : Pos} {body : List Stmt} {r : Addr} {a₀ b₀ : Int} {t₀ u₀ v₀ : Tok} {n : Nat} {Q : Flow → Shared → Prop} {R : Value → Shared → Prop}
    {m₀ : Str → Option Value} (J : Nat → (Str → Option Value) → Shared → Prop)
    (hh : A.handled = none) (hr : IsRange s.heap r a₀ b₀ 1 t₀ u₀ v₀) (hsmall : Builtin.Range.small a₀ b₀ 1 = true) (hn : Builtin.Range.rangeSize a₀ b₀ 1 = (n : Int))
    (hx : env.kindOf x = some .local) (hp : (env.scope.kind == .class || (env.scope.kind == .module && env.locals != env.globals)) = false)
    (F : Fr g env.locals s.heap m₀) (h0 : ∀ h' tk, Keep s.heap h' → J 0 m₀ { s with heap := h', toks := tk })
    (hJ : ∀ i m s₁ h' tk, J i m s₁ → (∀ b o, b ≠ s.heap.objs.size → b ≠ env.locals → s₁.heap.get? b = some o → h'.get? b = some o) → J i m { s₁ with heap := h', toks := tk })
    (turn : ∀ i t m s₁ E', i < n → J i m s₁ → Fr g env.locals s₁.heap (fun y => if y = x then some (.int (a₀ + i) t) else m y) → (∃ o, s₁.heap.get? s.heap.objs.size = some o) →
      wpAny (model prog w) A (execs body env) (fun f s' => match f with
        | .next | .cont => ∃ m', Fr g env.locals s'.heap m' ∧ (∀ o, s₁.heap.get? s.heap.objs.size = some o → s'.heap.get? s.heap.objs.size = some o) ∧ J (i + 1) m' s'
        | .brk => Q .next s'
        | .ret v => Q (.ret v) s') E' s₁)
    (done : ∀ m s', J n m s' → Fr g env.locals s'.heap m → Q .next s') :
    wpAny (model prog w) A (pyIter (.ref r)) (fun it s₂ => codeAny (model prog w) A (.forLoop (.Name x px) it body [] env) (fun r s' => match r with | .ok f => Q f s' | .error e => R e s') s₂) E s := by
  refine wpAny_pyIter_range hr hsmall ?_
  refine loop_of (n := n) J (Walks.range hh s.heap.objs.size a₀ 1 n) ?_ ?_ hx hp (by show IsRangeIter _ _ _ _ _; rw [hn]; simpa using Heap.get?_push_size _ rfl) (F.push _) (h0 _ _ fun b o e => Heap.get?_push_of_some _ e) ?_ ?_ done
  · intro hm
    exact absurd F.ns.lt ((List.mem_singleton.mp hm) ▸ Nat.lt_irrefl _)
  · intro b hb
    rw [List.mem_singleton.mp hb]
    exact fresh_of F.keep
  · intro i m s₁ h' tk hj hk
    exact hJ i m s₁ h' tk hj fun b o hb hbL e => hk b o (fun hm => hb (List.mem_singleton.mp hm)) hbL e
  · rintro i v m s₁ E' hi ⟨t, rfl⟩ hj F₁ hst
    have hst' : s₁.heap.get? s.heap.objs.size = some _ := hst
    rw [Int.mul_one] at F₁
    refine wpAny_mono (turn i t m s₁ E' hi hj F₁ ⟨_, hst'⟩) (fun f s' h => ?_) fun _ _ e => e
    have fin : (∃ m', Fr g env.locals s'.heap m' ∧ (∀ o, s₁.heap.get? s.heap.objs.size = some o → s'.heap.get? s.heap.objs.size = some o) ∧ J (i + 1) m' s') →
        ∃ m', Fr g env.locals s'.heap m' ∧ (∀ b ∈ [s.heap.objs.size], ∀ o, s₁.heap.get? b = some o → s'.heap.get? b = some o) ∧ J (i + 1) m' s' := by
      rintro ⟨m', F', k1, j⟩
      refine ⟨m', F', fun b hb o e => ?_, j⟩
      rw [List.mem_singleton.mp hb] at e ⊢; exact k1 o e
    cases f with
    | next => exact fin h
    | cont => exact fin h
    | brk => exact h
    | ret v => exact h
end
end Mine
namespace Mine
open PySem PyProof.Rows

/-- more generators, none of the elder turned; the new ones bare -/
structure MoreGens (a b : Array GenState) : Prop where
  size : a.size ≤ b.size
  old : ∀ k, k < a.size → b[k]? = a[k]?
  bare : ∀ k x, a.size ≤ k → b[k]? = some x → x.bare = true
theorem MoreGens.refl (a : Array GenState) : MoreGens a a := ⟨Nat.le_refl _, fun _ _ => rfl, fun k x hk e => by rw [Array.getElem?_eq_none hk] at e; cases e⟩
theorem MoreGens.trans {a b c : Array GenState} (x : MoreGens a b) (y : MoreGens b c) : MoreGens a c := by
  refine ⟨Nat.le_trans x.size y.size, fun k hk => (y.old k (Nat.lt_of_lt_of_le hk x.size)).trans (x.old k hk), fun k z hk e => ?_⟩
  by_cases q : k < b.size
  · rw [y.old k q] at e; exact x.bare k z hk e
  · exact y.bare k z (Nat.le_of_not_lt q) e

/-- nothing is turned but what lies at ex; generators may be made -/
structure Calm (ex : List Addr) (s₀ s : Shared) : Prop where
  heap : ∀ b o, b ∉ ex → s₀.heap.get? b = some o → s.heap.get? b = some o
  gens : MoreGens s₀.gens s.gens
  drawn : s.drawn = s₀.drawn
  os : s.os = s₀.os
theorem Calm.refl (ex : List Addr) (s : Shared) : Calm ex s s := ⟨fun _ _ _ e => e, .refl _, rfl, rfl⟩
theorem Calm.trans {ex : List Addr} {a b c : Shared} (x : Calm ex a b) (y : Calm ex b c) : Calm ex a c :=
  ⟨fun d o h1 e => y.heap d o h1 (x.heap d o h1 e), x.gens.trans y.gens, y.drawn.trans x.drawn, y.os.trans x.os⟩
theorem Calm.of {ex : List Addr} {s : Shared} {h' : Heap} {tk : Nat} (hk : ∀ b o, b ∉ ex → s.heap.get? b = some o → h'.get? b = some o) : Calm ex s { s with heap := h', toks := tk } := ⟨hk, .refl _, rfl, rfl⟩
theorem Calm.mono {ex ex' : List Addr} {a b : Shared} (x : Calm ex a b) (h : ∀ d ∈ ex, d ∈ ex') : Calm ex' a b := ⟨fun d o h1 e => x.heap d o (fun q => h1 (h d q)) e, x.gens, x.drawn, x.os⟩

section
variable {prog : Program} {w : World} {A : Around}

/-- the element, wherever the generator stands; J: what holds of the heap there -/
def EltN (prog : Program) (w : World) (cenv : Env) (x : Str) (elt : Expr) (we : List Addr) (n₀ : Nat) (P F : Nat → Value → Prop) (J : Heap → Prop) (D U : Nat) : Prop :=
  ∀ (A' : Around) (E' : Value → Shared → Prop) i v (s₂ : Shared) m₂, A'.handled = none → A'.depth ≤ D → A'.units ≤ U → i < n₀ → P i v → s₂.heap.Ns cenv.locals m₂ → m₂ x = some v → J s₂.heap →
    wpAny (model prog w) A' (eval elt cenv) (fun y s₃ => F i y ∧ Calm we s₂ s₃ ∧ J s₃.heap) E' s₂

/-- where things lie -/
structure LieN (C : Addr) (fp₀ wr₀ fj we : List Addr) (J : Heap → Prop) : Prop where
  cf : C ∉ fp₀
  cj : C ∉ fj
  jw : ∀ b ∈ fj, b ∉ wr₀
  ej : ∀ b ∈ we, b ∈ fj
  ef : ∀ b ∈ we, b ∉ fp₀
  st : ∀ h h' : Heap, J h → (∀ b ∈ fj, ∀ o, h.get? b = some o → h'.get? b = some o) → J h'

abbrev exN (C : Addr) (wr₀ we : List Addr) : List Addr := C :: (wr₀ ++ we)
abbrev fpN (C : Addr) (fp₀ fj : List Addr) : List Addr := C :: (fp₀ ++ fj)

structure FromG (g : Nat) (a b : Array GenState) : Prop where
  size : a.size ≤ b.size
  old : ∀ k, k < g → b[k]? = a[k]?
  bare : (∀ k x, g ≤ k → a[k]? = some x → x.bare = true) → ∀ k x, g ≤ k → b[k]? = some x → x.bare = true

theorem setGen_ne {s : Shared} {g k : Nat} {x : GenState} (h : k ≠ g) : (s.setGen g x).gens[k]? = s.gens[k]? := (GenOnly.setGen s g x).2 k h
theorem setGen_size {s : Shared} {g : Nat} {x : GenState} : (s.setGen g x).gens.size = s.gens.size := (GenOnly.setGen s g x).1

theorem fromG_step {s s₁ : Shared} {g : Nat} {gs y : GenState} (hgs : s.gens[g]? = some gs) (x : MoreGens (s.setGen g .running).gens s₁.gens) (hy : y.bare = true) : FromG g s.gens (s₁.setGen g y).gens := by
  have hlt : g < s.gens.size := (Array.getElem?_eq_some_iff.mp hgs).1
  have h1 := x.size
  rw [setGen_size] at h1
  have hg1 : s₁.gens[g]? = some .running := by rw [x.old g (by rw [setGen_size]; exact hlt)]; exact setGen_self hgs
  refine ⟨by rw [setGen_size]; exact h1, fun k hk => ?_, fun hb k z hk e => ?_⟩
  · rw [setGen_ne (Nat.ne_of_lt hk), x.old k (by rw [setGen_size]; (first | lia | omega)), setGen_ne (Nat.ne_of_lt hk)]
  · by_cases q : k = g
    · subst q; rw [setGen_self hg1] at e; cases e; exact hy
    · rw [setGen_ne q] at e
      by_cases r : k < s.gens.size
      · rw [x.old k (by rw [setGen_size]; exact r), setGen_ne q] at e
        exact hb k z hk e
      · exact x.bare k z (by rw [setGen_size]; (first | lia | omega)) e

end
end Mine
namespace Mine
open PySem PySem.W PyProof.Rows

/-- room for frames and C units -/
structure Room (A : Around) (d : Nat) : Prop where
  handled : A.handled = none
  depth : A.depth + d < recursionLimit
  units : A.units + 8 * d < cLine
theorem Room.deeper {A : Around} {d : Nat} (R : Room A (d + 1)) (env : Env) : Room (A.deeper env) d :=
  ⟨R.handled, by have := R.depth; show A.depth + 1 + d < recursionLimit; (first | lia | omega), by have := R.units; show A.units + 3 + 8 * d < cLine; (first | lia | omega)⟩
theorem Room.in1 {A : Around} {d : Nat} (R : Room A (d + 1)) : Room A.in1 d :=
  ⟨R.handled, by have := R.depth; show A.depth + d < recursionLimit; (first | lia | omega), by have := R.units; show A.units + 1 + 8 * d < cLine; (first | lia | omega)⟩
theorem Room.less {A : Around} {d e : Nat} (R : Room A d) (h : e ≤ d) : Room A e :=
  ⟨R.handled, by have := R.depth; (first | lia | omega), by have := R.units; (first | lia | omega)⟩
theorem Room.room {A : Around} {d : Nat} (R : Room A d) : A.depth < recursionLimit := by have := R.depth; (first | lia | omega)

/-- the ground: the text's objects and names stand in hb, and hb stands in h -/
structure Gd (K : Frag) (p : Program) (loose : List Str) (mg mb : Str → Option Value) (h : Heap) : Prop where
  x : K.In h
  t : TopRead p loose mg mb h
theorem Gd.keeps {K : Frag} {p : Program} {loose : List Str} {mg mb : Str → Option Value} {h h' : Heap} (G : Gd K p loose mg mb h) (k : Keep h h') : Gd K p loose mg mb h' := ⟨G.x.keeps k, G.t.keeps k⟩

section
variable {prog : Program} {w : World} {A : Around} {E : Value → Shared → Prop} {s : Shared} {K : Frag} {p : Program} {loose : List Str} {mg mb : Str → Option Value} {g : Heap}

/-- into a def without cells: g is what it must keep -/
theorem enter {Q : Value → Shared → Prop} {name qual : Str} {params : Arguments} {body : List Stmt} {scope : Scope} {dV kV doc pm cdv ct oc : Value} {an od : Option Addr} {osl : Array (Option Value)} {f : Addr} {args : List Value} {binds : List (Str × Value)}
    (G : Gd K p loose mg mb g) (hg : Keep g s.heap) (hsz : g.objs.size ≤ s.heap.objs.size)
    (ho : K.lookup f = some ⟨oc, od, .func (fnOf name qual params body scope dV kV doc pm an cdv ct), osl⟩) (hcd : codeIn K cdv qual = true) (hroom : A.depth < recursionLimit)
    (hbind : BindsTo s (fnOf name qual params body scope dV kV doc pm an cdv ct) ⟨args, []⟩ binds) (hloc : ∀ y ∈ binds, scope.names.lookup y.1 = some .local)
    (h : ∀ L h₁ tk, Fr g L h₁ (fun y => binds.reverse.lookup y) → Keep s.heap h₁ → s.heap.objs.size ≤ L →
      wpAny (model prog w) (A.deeper (envX qual scope L f cdv [])) (execs body (envX qual scope L f cdv []))
        (fun fl s' => Q (match fl with | .ret v => v | _ => .none) s') (fun _ _ => False) { s with heap := h₁, toks := tk })
    (hco : scope.isCoroutine = false) (hgen : scope.isGenerator = false) (hk : scope.kind = .function)
    (hcell : ∀ x ∈ scope.names, x.2 ≠ .cell) : wpAny (model prog w) A (call (.ref f) args) Q E s := by
  have X := G.x.keeps hg
  refine wpAny_call ?_
  refine codeAny_call_def (fd := fnOf name qual params body scope dV kV doc pm an cdv ct) (body := body) (binds := binds) hroom (X _ _ ho) rfl (G.t.nolimit.keeps hg) (codeRec_of X hcd) rfl hbind hcell hloc (fun h₁ hns hk₁ => ?_) hco hgen hk
  exact wpAny_mono (h s.heap.objs.size h₁ _ ⟨hns, fun b o e => hk₁ b o (hg b o e), hsz⟩ hk₁ (Nat.le_refl _)) (fun fl s' q => q) fun _ _ q => q.elim
end

theorem keep_hide {h : Heap} (l : List Addr) : Keep (hideAll h l) h := fun _ _ e => of_hideAll l e

end Mine
namespace Mine
open PySem PySem.W PySem.Calls PyProof.Rows

/-- the frame's names with one more -/
def up (m : Str → Option Value) (x : Str) (v : Value) : Str → Option Value := fun y => if y = x then some v else m y
theorem up_eq (m : Str → Option Value) (x : Str) (v : Value) : up m x v x = some v := if_pos rfl
theorem up_ne {m : Str → Option Value} {x y : Str} {v : Value} (h : y ≠ x) : up m x v y = m y := if_neg h
/-- the names that a call binds -/
def bs (l : List (Str × Value)) : Str → Option Value := fun y => l.reverse.lookup y

theorem news_move {g h h' : Heap} {L I : Addr} {news : List (Addr × Obj)} (N : News g L h news) (hI : ∀ p ∈ news, p.1 ≠ I) (hk : ∀ b o, b ≠ I → b ≠ L → h.get? b = some o → h'.get? b = some o) : News g L h' news :=
  fun p hp => ⟨hk _ _ (hI p hp) (N p hp).2.1 (N p hp).1, (N p hp).2⟩
theorem news_ne {g h : Heap} {L : Addr} {news : List (Addr × Obj)} (N : News g L h news) : ∀ p ∈ news, p.1 ≠ h.objs.size := fun p hp => Nat.ne_of_lt (Heap.lt_size (N p hp).1)
theorem news_sub {g h : Heap} {L : Addr} {news news' : List (Addr × Obj)} (N : News g L h news) (hs : ∀ p ∈ news', p ∈ news) : News g L h news' := fun p hp => N p (hs p hp)

section
variable {M : Model} {prog : Program} {w : World} {A : Around} {E : Value → Shared → Prop} {s : Shared} {K : Frag} {p : Program} {loose : List Str} {mg mb : Str → Option Value} {g : Heap} {L a : Addr} {m : Str → Option Value} {cn : Str} {cs : Scope} {ccd : Value} {cl : List (Str × Addr)} {x : Str} {v : Value} {news : List (Addr × Obj)}

theorem r_store {Q : Unit → Shared → Prop} (F : Fr g L s.heap m) (N : News g L s.heap news)
    (h : ∀ h' tk, Fr g L h' (up m x v) → News g L h' news → Keep g h' → Q () { s with heap := h', toks := tk })
    (hk : cs.kind = .function) (hx : (envX cn cs L a ccd cl).kindOf x = some .local) : wpAny M A (storeName (envX cn cs L a ccd cl) x v) Q E s :=
  storeX_L F N (fun h' F' N' => h h' _ F' N' F'.keep) hk hx

theorem r_glob {Q : Value → Shared → Prop} {pos : Pos} (G : Gd K p loose mg mb g) (F : Fr g L s.heap m) (e : nsIn K mainGlobals x = some (some v)) (h : Q v s)
    (hk : cs.kind = .function) (hx : (envX cn cs L a ccd cl).kindOf x = some .globalImplicit) (hd : (x == ("__debug__" : Str)) = false) : wpAny M A (eval (.Name x pos) (envX cn cs L a ccd cl)) Q E s :=
  nameX_K F G.x G.t e h hk hx hd
theorem r_boot {Q : Value → Shared → Prop} {pos : Pos} (G : Gd K p loose mg mb g) (F : Fr g L s.heap m) (hv : bootBuiltins x = some v) (e : nsIn K mainGlobals x = some none) (hn : x ≠ "__name__") (h : Q v s)
    (hk : cs.kind = .function) (hx : (envX cn cs L a ccd cl).kindOf x = some .globalImplicit) (hd : (x == ("__debug__" : Str)) = false) : wpAny M A (eval (.Name x pos) (envX cn cs L a ccd cl)) Q E s :=
  nameX_B F G.x G.t e hv hn h hk hx hd

/-- a def of the text's, with arguments -/
theorem r_callf {Q : Value → Shared → Prop} {env : Env} {pos : Pos} {f : Addr} {e : Expr} {rest : List Expr} (G : Gd K p loose mg mb g) (hk : keepIn K (.ref f) = true)
    (h : wpAny M A (spliced (backTo pos (starEach (e :: rest) env))) (fun vs s₁ => Keep g s₁.heap ∧ wpAny M A (call (.ref f) vs) Q E s₁) E s)
    (he : starEach (e :: rest) env = (false, eval e env) :: starEach rest env) (hplain : (backTo pos (starEach rest env)).any (·.1) = false) :
    wpAny M A (callWith pos (.ref f) [] (backTo pos (starEach (e :: rest) env)) []) Q E s :=
  callWith_K G.x hk (wpAny_mono h (fun vs s₁ q => ⟨G.x.keeps q.1, q.2⟩) fun _ _ e => e) he hplain
/-- a method of the text's, with arguments -/
theorem r_callm {Q : Value → Shared → Prop} {env : Env} {pos : Pos} {f : Addr} {first : List Value} {e : Expr} {rest : List Expr} (G : Gd K p loose mg mb g) (hk : keepIn K (.ref f) = true)
    (h : wpAny M A (spliced (backTo pos (starEach (e :: rest) env))) (fun vs s₁ => Keep g s₁.heap ∧ wpAny M A (call (.ref f) (first ++ vs)) Q E s₁) E s)
    (he : starEach (e :: rest) env = (false, eval e env) :: starEach rest env) (hplain : (backTo pos (starEach rest env)).any (·.1) = false) :
    wpAny M A (callWith pos (.ref f) first (backTo pos (starEach (e :: rest) env)) []) Q E s :=
  callWith_K G.x hk (wpAny_mono h (fun vs s₁ q => ⟨G.x.keeps q.1, q.2⟩) fun _ _ e => e) he hplain
theorem r_callm0 {Q : Value → Shared → Prop} {env : Env} {pos : Pos} {f : Addr} {first : List Value} (G : Gd K p loose mg mb g) (hg : Keep g s.heap) (hk : keepIn K (.ref f) = true)
    (h : wpAny M A (call (.ref f) (first ++ [])) Q E s) : wpAny M A (callWith pos (.ref f) first (backTo pos (starEach [] env)) []) Q E s :=
  callWith_K0 (G.x.keeps hg) hk h

/-- an item of a list of ints, counted from the front -/
theorem r_item {value slice : Expr} {l : Addr} {vs : List Value} {ns : List Int} {k : Int} {u : Tok} {Q : Value → Shared → Prop} (hl : s.heap.IsList l vs.toArray) (hi : IntsAre vs ns)
    (h0 : 0 ≤ k) (h1 : k < ns.length) (hf : k < 2 ^ 63) (h : ∀ t, Q (.int (ns.getD k.toNat 0) t) s)
    (hs : subscripted slice false (.ref l) (.int k u) = operate [.ref l, .int k u] (getItem (.ref l) (.int k u))) :
    wpAny (model prog w) A (subscriptTail value slice (.ref l) (.int k u)) Q E s := by
  have hlt : k.toNat < ns.length := by (first | lia | omega)
  obtain ⟨t, ht⟩ := hi.get k.toNat ns[k.toNat] (by simp [hlt])
  refine tail_any hl.typeIs slot_list_getitem.lookup (wpAny_getItem_list hl h0 hf (by simpa using ht) ?_) hs
  have e : ns.getD k.toNat 0 = ns[k.toNat] := by simp [hlt]
  rw [← e]; exact h t
end

section
variable {prog : Program} {w : World} {A : Around} {E : Value → Shared → Prop} {s : Shared} {K : Frag} {p : Program} {loose : List Str} {mg mb : Str → Option Value} {g : Heap}

/-- into a def with cells -/
theorem enterC {Q : Value → Shared → Prop} {name qual : Str} {params : Arguments} {body : List Stmt} {scope : Scope} {dV kV doc pm cdv ct oc : Value} {an od : Option Addr} {osl : Array (Option Value)} {f : Addr} {args : List Value} {binds : List (Str × Value)}
    (G : Gd K p loose mg mb g) (hg : Keep g s.heap) (hsz : g.objs.size ≤ s.heap.objs.size)
    (ho : K.lookup f = some ⟨oc, od, .func (fnOf name qual params body scope dV kV doc pm an cdv ct), osl⟩) (hcd : codeIn K cdv qual = true) (hroom : A.depth < recursionLimit)
    (hbind : BindsTo s (fnOf name qual params body scope dV kV doc pm an cdv ct) ⟨args, []⟩ binds)
    (hkind : (binds.all fun y => scope.names.lookup y.1 == some .local || scope.names.lookup y.1 == some .cell) = true) (hnd : ((cellsFrom 0 scope.names []).map (·.1)).Nodup)
    (h : ∀ L h₁ tk cells, Fr g L h₁ (bindL (envX qual scope L f cdv (cellsFrom (L + 1) scope.names [])).kindOf binds fun _ => none) → News g L h₁ cells →
      CellsAre (bindC (envX qual scope L f cdv (cellsFrom (L + 1) scope.names [])).kindOf binds fun _ => none) (cellsFrom (L + 1) scope.names []) cells → Keep s.heap h₁ → s.heap.objs.size ≤ L →
      wpAny (model prog w) (A.deeper (envX qual scope L f cdv (cellsFrom (L + 1) scope.names []))) (execs body (envX qual scope L f cdv (cellsFrom (L + 1) scope.names [])))
        (fun fl s' => Q (match fl with | .ret v => v | _ => .none) s') (fun _ _ => False) { s with heap := h₁, toks := tk })
    (hco : scope.isCoroutine = false) (hgen : scope.isGenerator = false) (hk : scope.kind = .function) : wpAny (model prog w) A (call (.ref f) args) Q E s := by
  have X := G.x.keeps hg
  refine wpAny_call ?_
  refine codeAny_call_function hroom (X _ _ ho) rfl hco hgen rfl (codeRec_of X hcd) (hbind _ _ _ _ ?_)
  refine wpAny_newFunctionEnv_cells hk (kindsX hkind _) fun env' he s' x => ?_
  subst he
  refine ⟨(G.t.nolimit.keeps hg).keeps x.toInCall.keep, codeAny_func ?_⟩
  obtain ⟨h₁, tk, rfl, _⟩ := x.done
  have hk₁ := x.toInCall.keep
  obtain ⟨cells, NC, Y⟩ := Cl.news (h₀ := s.heap) (Nat.le_refl _) fun n c hm => ⟨x.cell n c (lookup_of_mem_nodup (cellsFrom_names scope.names 0 (s.heap.objs.size + 1) [] [] rfl ▸ hnd) hm), x.above n c hm⟩
  refine wpAny_mono (h s.heap.objs.size h₁ tk cells ⟨x.toInCall.ns, fun b o e => hk₁ b o (hg b o e), hsz⟩ (fun q hq => ⟨(NC q hq).1, (NC q hq).2.1, ?_⟩) Y hk₁ (Nat.le_refl _)) (fun fl s' q => q) fun _ _ q => q.elim
  cases e : g.get? q.1 with
  | none => rfl
  | some o => have := hg _ _ e; rw [(NC q hq).2.2] at this; cases this
end

section
variable {M : Model} {A : Around} {E : Value → Shared → Prop} {s : Shared} {env : Env} {K : Frag} {p : Program} {loose : List Str} {mg mb : Str → Option Value} {x : Str} {v : Value} {pos : Pos} {Q : Value → Shared → Prop}
/-- names in any block -/
theorem e_local {m : Str → Option Value} (hn : s.heap.Ns env.locals m) (hv : m x = some v) (h : Q v s) (hk : env.scope.kind = .function) (hx : env.kindOf x = some .local) (hd : (x == ("__debug__" : Str)) = false) :
    wpAny M A (eval (.Name x pos) env) Q E s := wpAny_Name (wpAny_loadName_local hk hx hn hv h) hd
theorem e_cell {c : Addr} (hc : env.cells.lookup x = some c) (hv : s.heap.IsCell c (some v)) (h : Q v s) (hk : env.scope.kind = .function) (hx : env.kindOf x = some .cell) (hd : (x == ("__debug__" : Str)) = false) :
    wpAny M A (eval (.Name x pos) env) Q E s := wpAny_Name (wpAny_loadName_cell hk hx hc hv h) hd
theorem e_free {c : Addr} (hc : env.cells.lookup x = some c) (hv : s.heap.IsCell c (some v)) (h : Q v s) (hk : env.scope.kind = .function) (hx : env.kindOf x = some .free) (hd : (x == ("__debug__" : Str)) = false) (hn : (x == ("__classdict__" : Str)) = false) :
    wpAny M A (eval (.Name x pos) env) Q E s := wpAny_Name (wpAny_loadName_free hk hx hc hv h hn) hd
theorem e_glob (G : Gd K p loose mg mb s.heap) (e : nsIn K mainGlobals x = some (some v)) (h : Q v s) (hg : env.globals = mainGlobals) (hk : env.scope.kind = .function) (hx : env.kindOf x = some .globalImplicit) (hd : (x == ("__debug__" : Str)) = false) :
    wpAny M A (eval (.Name x pos) env) Q E s := Name_function_global hk hx (loadGlobal_global (env := env) (by rw [hg]; exact G.t.g) (mg_of G.x G.t.g e) h) hd
theorem e_boot (G : Gd K p loose mg mb s.heap) (hv : bootBuiltins x = some v) (e : nsIn K mainGlobals x = some none) (hn : x ≠ "__name__") (h : Q v s) (hg : env.globals = mainGlobals) (hb : env.builtins = builtinsNs) (hk : env.scope.kind = .function)
    (hx : env.kindOf x = some .globalImplicit) (hd : (x == ("__debug__" : Str)) = false) : wpAny M A (eval (.Name x pos) env) Q E s :=
  Name_function_global hk hx (loadGlobal_builtin (env := env) (by rw [hg]; exact G.t.g) (mg_none_of G.x G.t.g e) (by rw [hb]; exact G.t.b) ((G.t.builtins x hn).trans hv) h) hd
end

section
variable {prog : Program} {w : World} {A : Around} {E : Value → Shared → Prop} {s : Shared}
theorem r_len {l : Addr} {vs : List Value} {n : Nat} {Q : Value → Shared → Prop} (hl : s.heap.IsList l vs.toArray) (hi : vs.length = n) (hfit : n < 2 ^ 62) (h : ∀ t tk, Q (.int (n : Nat) t) { s with toks := tk }) :
    wpAny (model prog w) A (call (.builtin "len") [.ref l]) Q E s := by
  have e : vs.toArray.size = n := by simp [hi]
  refine Calls.call_len_list hl (by (first | lia | omega)) ?_
  rw [e]
  exact h _ _
end
end Mine
namespace Mine
open PySem PySem.W PySem.Calls PyProof.Rows

/-- what a comprehension's test or element must leave as it is -/
def Stab (C D : Addr) (fp : List Addr) (s s' : Shared) : Prop := ∀ b, (b = C ∨ b = D ∨ b ∈ fp) → ∀ o, s.heap.get? b = some o → s'.heap.get? b = some o
theorem Stab.of {C D : Addr} {fp : List Addr} {s s' : Shared} (k : Keep s.heap s'.heap) : Stab C D fp s s' := fun b _ o e => k b o e
theorem Stab.refl {C D : Addr} {fp : List Addr} (s : Shared) : Stab C D fp s s := fun _ _ _ e => e

section
variable {prog : Program} {w : World} {A : Around} {E : Value → Shared → Prop} {env : Env}

abbrev testsOf (ifs : List Expr) (env : Env) : Sem Bool := forIn ifs true fun c r => if r = true then do let ok ← isTrue c env (eval c env); pure (ForInStep.yield ok) else pure (ForInStep.yield r)

abbrev TurnC (prog : Program) (w : World) (A : Around) (env : Env) (scope : Scope) (cl : List (Str × Addr)) (x : Str) (ifs : List Expr) (elt : Expr) (fp : List Addr) (n : Nat) (P : Nat → Value → Prop) (s₂ : Shared)
    (J : Addr → Addr → Nat → List Value → Shared → Prop) : Prop :=
  ∀ C D i ys v s₃ m₃ E', s₂.heap.objs.size ≤ C → s₂.heap.objs.size ≤ D → i < n → P i v → J C D i ys s₃ → s₃.heap.Ns C m₃ → m₃ x = some v → (∃ o, s₃.heap.get? D = some o) → (∀ b ∈ fp, b < s₂.heap.objs.size) →
    wpAny (model prog w) A (testsOf ifs (compEnvC scope cl C env)) (fun ok s₄ => Stab C D fp s₃ s₄ ∧
      if ok = true then wpAny (model prog w) A (eval elt (compEnvC scope cl C env)) (fun y s₅ => Stab C D fp s₄ s₅ ∧ J C D (i + 1) (ys ++ [y]) s₅) E' s₄ else J C D (i + 1) ys s₄) E' s₃

structure CompOk (prog : Program) (w : World) (A : Around) (env : Env) (scope : Scope) (cl : List (Str × Addr)) (x : Str) (ifs : List Expr) (elt : Expr) (I : Addr) (fp wr : List Addr) (n : Nat) (P : Nat → Value → Prop) (St : Nat → Heap → Prop)
    (J : Addr → Addr → Nat → List Value → Shared → Prop) (s₂ : Shared) : Prop where
  W : Walks prog w A I fp wr n P St
  sz : n ≤ sizeLine
  st : St 0 s₂.heap
  fpl : ∀ b ∈ fp, b < s₂.heap.objs.size
  j0 : ∀ C D h' tk, C ≠ D → s₂.heap.objs.size ≤ C → s₂.heap.objs.size ≤ D → Keep s₂.heap h' → J C D 0 [] { s₂ with heap := h', toks := tk }
  js : ∀ C D i ys s h' tk, J C D i ys s → (∀ b o, b ∉ wr → b ≠ C → b ≠ D → s.heap.get? b = some o → h'.get? b = some o) → J C D i ys { s with heap := h', toks := tk }
  turn : TurnC prog w A env scope cl x ifs elt fp n P s₂ J

theorem comp_core {elt iter : Expr} {x : Str} {px : Pos} {ifs : List Expr} {scope : Scope} {cl : List (Str × Addr)} {pos : Pos} {s₂ : Shared} {I : Addr} {fp wr : List Addr} {n : Nat} {P : Nat → Value → Prop}
    {St : Nat → Heap → Prop} {J : Addr → Addr → Nat → List Value → Shared → Prop} {RR : Value → Addr → Result → Shared → Prop}
    (O : CompOk prog w A env scope cl x ifs elt I fp wr n P St J s₂)
    (hcell : ∀ y ∈ scope.names, y.2 ≠ .cell) (hkind : scope.kind = .function) (hx : scope.names.lookup x = some .local)
    (done : ∀ C D ys s' m', C ≠ D → s₂.heap.objs.size ≤ C → s₂.heap.objs.size ≤ D → J C D n ys s' → ys.length ≤ n → s'.heap.Ns C m' → s'.heap.PlainList D ys.toArray → RR (.ref D) C (.ok .next) s') :
    wpAny (model prog w) A (newList []) (fun acc s₃ => wpAny (model prog w) A (newFunctionEnv scope env.globals cl [] env.qual none .none (some env)) (fun cenv s₄ =>
      codeAny (model prog w) A (.compStart (.ListComp elt [⟨.Name x px, iter, ifs, 0⟩] scope pos) 0 (.ref I) acc { cenv with scope := relabel scope env }) (RR acc cenv.locals) s₄) E s₃) E s₂ := by
  obtain ⟨W, hsz, hst, hfp, j0, js, turn⟩ := O
  refine wpAny_newObj_type (wpAny_newFunctionEnv hcell (by intro y hy; simp at hy) (fun h₁ hns₁ hsb₁ => ?_) hkind)
  dsimp only at hns₁ hsb₁ ⊢
  generalize hH2 : s₂.heap.push { cls := .type "list", dict := none, data := .seq ([] : List Value).toArray } = H2 at hns₁ hsb₁ ⊢
  have hC : H2.objs.size = s₂.heap.objs.size + 1 := by rw [← hH2, Heap.size_push]
  obtain ⟨C, hCe⟩ : ∃ C : Nat, C = H2.objs.size := ⟨_, rfl⟩
  obtain ⟨D, hDe⟩ : ∃ D : Nat, D = s₂.heap.objs.size := ⟨_, rfl⟩
  rw [← hCe] at hns₁ hsb₁ hC ⊢
  rw [← hDe] at hC ⊢
  have hDC : D ≠ C := by (first | lia | omega)
  have hfp' : ∀ b ∈ fp, @LT.lt Nat _ b D := fun b hb => by rw [hDe]; exact hfp b hb
  have hDf : D ∉ fp := fun hm => Nat.lt_irrefl _ (hfp' _ hm)
  have hCf : C ∉ fp := fun hm => by have := hfp' _ hm; (first | lia | omega)
  have lts : ∀ b o, s₂.heap.get? b = some o → @LT.lt Nat _ b D := fun b o e => by rw [hDe]; exact Heap.lt_size e
  have old : ∀ b o, s₂.heap.get? b = some o → h₁.get? b = some o := fun b o e => hsb₁.extBut b o (Nat.ne_of_lt (by have := lts b o e; (first | lia | omega))) (Heap.get?_push_of_some _ (hH2 ▸ Heap.get?_push_of_some _ e))
  have hacc : h₁.PlainList D #[] := ⟨_, hsb₁.extBut _ _ hDC (Heap.get?_push_of_some _ (by rw [← hH2, hDe]; exact Heap.get?_push_size _ rfl))⟩
  have hst₁ : St 0 h₁ := W.frame _ _ _ hst fun b _ o e => old b o e
  have hCw : C ∉ wr := fun h => hCf (W.sub _ h)
  have hDw : D ∉ wr := fun h => hDf (W.sub _ h)
  have hkx : (compEnvC scope cl C env).kindOf x = some .local := lookup_relabel_local hx
  have hp : ((compEnvC scope cl C env).scope.kind == .class || ((compEnvC scope cl C env).scope.kind == .module && (compEnvC scope cl C env).locals != (compEnvC scope cl C env).globals)) = false := by simp [compEnvC, relabel, hkind]
  have loop : ∀ s₃ : Shared, s₃ = { s₂ with heap := h₁, toks := s₂.toks + ([] : List (Str × Value)).length } →
      codeAny (model prog w) A (.compLoop (.ListComp elt [⟨.Name x px, iter, ifs, 0⟩] scope pos) 0 (.ref I) (.ref D) (compEnvC scope cl C env)) (RR (.ref D) C) s₃ := by
    rintro s₃ rfl
    refine codeAny_compLoop_tests (fun k s' => ∃ i ys m', St i s'.heap ∧ s'.heap.PlainList D ys.toArray ∧ s'.heap.Ns C m' ∧ J C D i ys s' ∧ ys.length ≤ i ∧ i ≤ n ∧ k = n + 1 - i) ?_ (n + 1)
      ⟨0, [], _, hst₁, hacc, hns₁, j0 C D h₁ _ (Ne.symm hDC) (by (first | lia | omega)) (by (first | lia | omega)) old, Nat.le_refl _, Nat.zero_le _, rfl⟩
    rintro k s' ⟨i, ys, m', hst', hacc', hn', hj, hlen, hi, rfl⟩
    by_cases hlt : i < n
    · refine W.item i _ _ _ hlt hst' fun v h₁ tk₁ hPv hst₁ hk₁ => ?_
      refine wpAny_assign_Name (wpAny_storeName_local hkx (hn'.at' fun o e => hk₁ _ o hCw e) (fun h₂ hn₂ hs₂ => ?_) hp)
      have up₂ : ∀ b o, b ≠ C → b ∉ wr → s'.heap.get? b = some o → h₂.get? b = some o := fun b o hbC hbf e => hs₂.extBut b o hbC (hk₁ b o hbf e)
      have hst₂ : St (i + 1) h₂ := W.frame _ _ _ hst₁ fun b hb o e => hs₂.extBut b o (fun (h : b = C) => hCf (h ▸ hb)) e
      have hacc₂ : h₂.PlainList D ys.toArray := hacc'.at fun o e => up₂ D o hDC hDw e
      have hj₂ := js C D i ys s' h₂ (tk₁ + 1) hj fun b o hb hbC _ e => up₂ b o hbC hb e
      refine wpAny_mono (turn C D i ys v _ _ _ (by (first | lia | omega)) (by (first | lia | omega)) hlt hPv hj₂ hn₂ (by simp) (by obtain ⟨q, e⟩ := hacc₂; exact ⟨_, e⟩) hfp) (fun ok s₄ h₄ => ?_) fun _ _ e => e
      obtain ⟨hsb₄, h₄⟩ := h₄
      have hst₄ : St (i + 1) s₄.heap := W.frame _ _ _ hst₂ fun b hb o e => hsb₄ b (.inr (.inr hb)) o e
      have hacc₄ : s₄.heap.PlainList D ys.toArray := hacc₂.at fun o e => hsb₄ D (.inr (.inl rfl)) o e
      have hn₄ : ∃ m, s₄.heap.Ns C m := ⟨_, hn₂.at' fun o e => hsb₄ C (.inl rfl) o e⟩
      cases ok with
      | false =>
        simp only [Bool.false_eq_true, if_false] at h₄ ⊢
        obtain ⟨m₄, hn₄⟩ := hn₄
        exact ⟨n + 1 - (i + 1), by (first | lia | omega), i + 1, ys, m₄, hst₄, hacc₄, hn₄, h₄, by (first | lia | omega), hlt, rfl⟩
      | true =>
        simp only [if_true] at h₄ ⊢
        refine wpAny_mono h₄ (fun y s₅ h₅ => ?_) fun _ _ e => e
        obtain ⟨hsb₅, hj₅⟩ := h₅
        have hst₅ : St (i + 1) s₅.heap := W.frame _ _ _ hst₄ fun b hb o e => hsb₅ b (.inr (.inr hb)) o e
        have hacc₅ : s₅.heap.PlainList D ys.toArray := hacc₄.at fun o e => hsb₅ D (.inr (.inl rfl)) o e
        obtain ⟨m₄, hn₄⟩ := hn₄
        have hn₅ := hn₄.at' fun o e => hsb₅ C (.inl rfl) o e
        refine wpAny_list_append_plain (hsz := by simp only [List.size_toArray]; (first | lia | omega)) hacc₅ fun h₆ hl₆ hs₆ => ?_
        refine ⟨n + 1 - (i + 1), by (first | lia | omega), i + 1, ys ++ [y], m₄, W.frame _ _ _ hst₅ fun b hb o e => hs₆.extBut b o (fun (h : b = D) => hDf (h ▸ hb)) e, by simpa using hl₆, hn₅.sameBut hs₆ (Ne.symm hDC), ?_, by simp; (first | lia | omega), hlt, rfl⟩
        exact js C D (i + 1) (ys ++ [y]) s₅ h₆ s₅.toks hj₅ fun b o _ _ hbD e => hs₆.extBut b o hbD e
    · have hin : i = n := by (first | lia | omega)
      subst hin
      refine W.done _ _ _ hst' fun h₁ tk₁ hk₁ => ?_
      exact done C D ys _ m' (Ne.symm hDC) (by (first | lia | omega)) (by (first | lia | omega)) (js C D i ys s' h₁ tk₁ hj fun b o hb _ _ e => hk₁ b o hb e) hlen (hn'.at' fun o e => hk₁ _ o hCw e) (hacc'.at fun o e => hk₁ _ o hDw e)
  exact codeAny_compStart_list (loop _ rfl) (W.self 0 _ _ _ hst₁ (loop _ rfl))

/-- the comprehension's source is walked -/
def CompIn (prog : Program) (w : World) (A : Around) (env : Env) (scope : Scope) (cl : List (Str × Addr)) (x : Str) (ifs : List Expr) (elt : Expr) (Fin : Addr → Addr → List Value → Shared → Shared → Prop) (it : Value) (s₂ : Shared) : Prop :=
  ∃ I fp wr n P St J, it = .ref I ∧ CompOk prog w A env scope cl x ifs elt I fp wr n P St J s₂ ∧
    ∀ C D ys s', C ≠ D → s₂.heap.objs.size ≤ C → s₂.heap.objs.size ≤ D → J C D n ys s' → ys.length ≤ n → s'.heap.PlainList D ys.toArray → Fin C D ys s₂ s'

theorem none_of_ge {h : Heap} {a : Addr} (k : h.objs.size ≤ a) : h.get? a = none := by
  cases e : h.get? a with
  | none => rfl
  | some o' => exact absurd (Heap.lt_size e) (Nat.not_lt.mpr k)

theorem comp_expr {s : Shared} {elt iter : Expr} {x : Str} {px : Pos} {ifs : List Expr} {scope : Scope} {cl : List (Str × Addr)} {pos : Pos} {Q : Value → Shared → Prop}
    (hclos : closureFor scope env = pure cl) (hcell : ∀ y ∈ scope.names, y.2 ≠ .cell) (hkind : scope.kind = .function)
    (hnames : ∀ y ∈ scope.names, y.2 = .local → scope.names.lookup y.1 = some .local) (hx : scope.names.lookup x = some .local)
    (h : wpAny (model prog w) A (eval iter env) (fun xv s₁ => wpAny (model prog w) A (pyIter xv) (fun it s₂ => CompIn prog w A env scope cl x ifs elt (fun _ D _ _ s' => Q (.ref D) s') it s₂) E s₁) E s)
    (hs : ∀ x, foldedSetIterable iter env x = pure x) :
    wpAny (model prog w) A (eval (.ListComp elt [⟨.Name x px, iter, ifs, 0⟩] scope pos) env) Q E s := by
  rw [eval_ListComp]
  refine wpAny_comprehension_free (use := none) rfl hs hclos hkind hnames (wpAny_mono h (fun xv s₁ h₁ => wpAny_mono h₁ (fun it s₂ h₂ => ?_) fun _ _ e => e) fun _ _ e => e)
  obtain ⟨I, fp, wr, n, P, St, J, rfl, O, hQ⟩ := h₂
  refine comp_core (RR := fun acc C => compPost (model prog w) A E none Q acc C) O hcell hkind hx ?_
  intro C D ys s' m' hCD hC hD hj hlen hn hl
  refine ⟨m', hn, fun h' hs' => hQ C D ys _ hCD hC hD (O.js C D n ys s' h' s'.toks hj fun b o _ hbC _ e => hs'.extBut b o hbC e) hlen (hl.extBut hs'.extBut (Ne.symm hCD))⟩

theorem comp_assign {s : Shared} {elt iter : Expr} {x y : Str} {px py : Pos} {ifs : List Expr} {scope : Scope} {cl : List (Str × Addr)} {pos spos : Pos} {Q : Flow → Shared → Prop} {g : Heap}
    (hsw : swapsWith (.ListComp elt [⟨.Name x px, iter, ifs, 0⟩] scope pos) (some (.Name y py)) spos.line env = pure true)
    (hclos : closureFor scope env = pure cl) (hcell : ∀ z ∈ scope.names, z.2 ≠ .cell) (hkind : scope.kind = .function)
    (hnames : ∀ z ∈ scope.names, z.2 = .local → scope.names.lookup z.1 = some .local) (hx : scope.names.lookup x = some .local)
    (hy : env.kindOf y = some .local) (hp : (env.scope.kind == .class || (env.scope.kind == .module && env.locals != env.globals)) = false)
    (h : wpAny (model prog w) A (eval iter env) (fun xv s₁ => wpAny (model prog w) A (pyIter xv) (fun it s₂ => CompIn prog w A env scope cl x ifs elt (fun C D ys s₂ s' =>
      ∃ m, Fr g env.locals s'.heap m ∧ Keep g s₂.heap ∧ (∃ oL, s₂.heap.get? env.locals = some oL) ∧ ∀ h' tk, Fr g env.locals h' (up m y (.ref D)) → h'.PlainList D ys.toArray →
        (∀ b o, b ≠ env.locals → b ≠ C → s'.heap.get? b = some o → h'.get? b = some o) → Q .next { s' with heap := h', toks := tk }) it s₂) E s₁) E s)
    (hs : ∀ x, foldedSetIterable iter env x = pure x) :
    wpAny (model prog w) A (exec (.Assign [.Name y py] (.ListComp elt [⟨.Name x px, iter, ifs, 0⟩] scope pos) spos) env) Q E s := by
  rw [exec_Assign_Name_used _ _ _ _ hsw]
  refine wpAny_bind (wpAny_standAt (wpAny_bind ?_))
  show wpAny _ A (do let _ ← comprehension (.ListComp elt [⟨.Name x px, iter, ifs, 0⟩] scope pos) scope env _ (newList []) false (eval iter env) (some (assign (.Name y py) env))) _ _ s
  refine wpAny_bind (wpAny_mono (wpAny_comprehension_free (use := some (assign (.Name y py) env)) (Q := fun _ s' => Q .next s') rfl hs hclos hkind hnames
    (wpAny_mono h (fun xv s₁ h₁ => wpAny_mono h₁ (fun it s₂ h₂ => ?_) fun _ _ e => e) fun _ _ e => e)) (fun _ s' hq => wpAny_pure (wpAny_pure hq)) fun _ _ e => e)
  obtain ⟨I, fp, wr, n, P, St, J, rfl, O, hQ⟩ := h₂
  refine comp_core (RR := fun acc C => compPost (model prog w) A E (some (assign (.Name y py) env)) (fun _ s' => Q .next s') acc C) O hcell hkind hx ?_
  intro C D ys s' m' hCD hC hD hj hlen hn hl
  obtain ⟨m, F, hg, ⟨oL, hoL⟩, hQ⟩ := hQ C D ys s' hCD hC hD hj hlen hl
  replace hC := none_of_ge hC
  replace hD := none_of_ge hD
  have hLC : env.locals ≠ C := by rintro rfl; rw [hC] at hoL; cases hoL
  have hLD : env.locals ≠ D := by rintro rfl; rw [hD] at hoL; cases hoL
  have hgC : ∀ b o, g.get? b = some o → b ≠ C := fun b o e q => by have := hg b o e; rw [q, hC] at this; cases this
  show wpAny _ A (assign (.Name y py) env (.ref D)) _ _ _
  refine wpAny_assign_Name (wpAny_storeName_local hy F.ns (fun h₂ hn₂ hs₂ => ?_) hp)
  have F₂ : Fr g env.locals h₂ (up m y (.ref D)) := F.set hn₂ hs₂
  refine ⟨m', hn.sameBut hs₂ (Ne.symm hLC), fun h₃ hs₃ => ?_⟩
  refine hQ h₃ _ ⟨F₂.ns.sameBut hs₃ hLC, fun b o e => hs₃.extBut b o (hgC b o e) (F₂.keep b o e), F₂.above⟩ ((hl.extBut hs₂.extBut (Ne.symm hLD)).extBut hs₃.extBut (Ne.symm hCD)) fun b o hbL hbC e => hs₃.extBut b o hbC (hs₂.extBut b o hbL e)

end
end Mine
namespace Mine
open PySem PySem.W PySem.Calls PyProof.Rows

/-- a list of ints; a list of such -/
def IsI (h : Heap) (v : Value) (c : List Int) : Prop := ∃ b its, v = .ref b ∧ h.IsList b its.toArray ∧ IntsAre its c
def IsLL (h : Heap) (a : Addr) (css : List (List Int)) : Prop := ∃ vs, h.IsList a vs.toArray ∧ Paired (IsI h) vs css
theorem IsI.keep {h h' : Heap} {v : Value} {c : List Int} (x : IsI h v c) (k : Keep h h') : IsI h' v c := let ⟨b, its, e, hl, hi⟩ := x; ⟨b, its, e, stays_list k hl, hi⟩
theorem IsLL.keep {h h' : Heap} {a : Addr} {css : List (List Int)} (x : IsLL h a css) (k : Keep h h') : IsLL h' a css := let ⟨vs, hl, hp⟩ := x; ⟨vs, stays_list k hl, hp.mono fun _ _ q => q.keep k⟩
theorem list_lt {h : Heap} {a : Addr} {its : Array Value} (x : h.IsList a its) : a < h.objs.size := let ⟨_, e, _⟩ := x; Heap.lt_size e

theorem paired_at {α β : Type} {R : α → β → Prop} : ∀ {l : List α} {l' : List β}, Paired R l l' → ∀ {i : Nat} {a : α}, l[i]? = some a → ∃ b, l'[i]? = some b ∧ R a b
  | _, _, .nil, i, a, h => by simp at h
  | _, _, .cons r t, 0, a, h => by simp at h; subst h; exact ⟨_, rfl, r⟩
  | _, _, .cons r t, i + 1, a, h => by simp at h; obtain ⟨b, hb, hr⟩ := paired_at t h; exact ⟨b, by simpa using hb, hr⟩
theorem paired_len {α β : Type} {R : α → β → Prop} {l : List α} {l' : List β} (h : Paired R l l') : l.length = l'.length := h.length

section
variable {prog : Program} {w : World} {A : Around} {E : Value → Shared → Prop} {env : Env}

def IterAt (prog : Program) (w : World) (A : Around) (n : Nat) (P : Nat → Value → Prop) (s : Shared) (it : Value) (s₂ : Shared) : Prop :=
  ∃ fp St, it = .ref s.heap.objs.size ∧ Walks prog w A s.heap.objs.size fp [s.heap.objs.size] n P St ∧ St 0 s₂.heap ∧ (∀ b ∈ fp, b < s₂.heap.objs.size) ∧ s₂.heap.objs.size = s.heap.objs.size + 1 ∧ Same s s₂ ∧ Keep s.heap s₂.heap

theorem src_list {s : Shared} {l : Addr} {items : Array Value} (hh : A.handled = none) (hl : s.heap.IsList l items) :
    wpAny (model prog w) A (pyIter (.ref l)) (fun it s₂ => IterAt prog w A items.size (fun i v => items[i]? = some v) s it s₂) E s := by
  have hlt := list_lt hl
  refine wpAny_pyIter_list hl ?_
  refine ⟨[s.heap.objs.size, l], _, rfl, Walks.list hh s.heap.objs.size l (Nat.ne_of_lt hlt) items, ⟨⟨_, Heap.get?_push_size _ rfl, rfl, rfl⟩, hl.at fun o e => Heap.get?_push_of_some _ e⟩, ?_, Heap.size_push .., ⟨rfl, rfl, rfl⟩, fun b o e => Heap.get?_push_of_some _ e⟩
  intro b hb
  rw [Heap.size_push]
  rcases List.mem_cons.mp hb with q | q
  · rw [q]; exact Nat.lt_succ_self _
  · rw [List.mem_singleton.mp q]; exact Nat.lt_succ_of_lt hlt

theorem src_range {s : Shared} {r : Addr} {a₀ b₀ : Int} {t₀ u₀ v₀ : Tok} {n : Nat} (hh : A.handled = none) (hr : IsRange s.heap r a₀ b₀ 1 t₀ u₀ v₀) (hsmall : Builtin.Range.small a₀ b₀ 1 = true) (hn : Builtin.Range.rangeSize a₀ b₀ 1 = (n : Int)) :
    wpAny (model prog w) A (pyIter (.ref r)) (fun it s₂ => IterAt prog w A n (fun i v => ∃ t, v = .int (a₀ + (i : Nat)) t) s it s₂) E s := by
  refine wpAny_pyIter_range hr hsmall ?_
  have W := Walks.range (prog := prog) (w := w) hh s.heap.objs.size a₀ 1 n
  simp only [Int.mul_one] at W
  refine ⟨[s.heap.objs.size], _, rfl, W, (by show IsRangeIter _ _ _ _ _; rw [hn]; simpa using Heap.get?_push_size _ rfl), ?_, Heap.size_push .., ⟨rfl, rfl, rfl⟩, fun b o e => Heap.get?_push_of_some _ e⟩
  intro b hb
  rw [Heap.size_push, List.mem_singleton.mp hb]; exact Nat.lt_succ_self _

section
variable {s s₂ : Shared} {it : Value} {n : Nat} {P : Nat → Value → Prop} {elt : Expr} {x : Str} {ifs : List Expr} {scope : Scope} {cl : List (Str × Addr)} {Fin : Addr → Addr → List Value → Shared → Shared → Prop}

/-- a comprehension that turns nothing that stood; Jp speaks of the values alone -/
theorem compIn_v (H : IterAt prog w A n P s it s₂) (hsz : n ≤ sizeLine) (Jp : Nat → List Value → Prop) (j0 : Jp 0 [])
    (turn : ∀ C i ys v s₃ m₃ E', i < n → P i v → Jp i ys → Same s s₃ → Keep s.heap s₃.heap → s₃.heap.Ns C m₃ → m₃ x = some v →
      wpAny (model prog w) A (testsOf ifs (compEnvC scope cl C env)) (fun ok s₄ => Same s₃ s₄ ∧ Keep s₃.heap s₄.heap ∧
        if ok = true then wpAny (model prog w) A (eval elt (compEnvC scope cl C env)) (fun y s₅ => Same s₄ s₅ ∧ Keep s₄.heap s₅.heap ∧ Jp (i + 1) (ys ++ [y])) E' s₄ else Jp (i + 1) ys) E' s₃)
    (done : ∀ C D ys s', C ≠ D → s.heap.objs.size < C → s.heap.objs.size < D → Jp n ys → Same s s' → Keep s.heap s'.heap → s'.heap.PlainList D ys.toArray → Fin C D ys s₂ s') :
    CompIn prog w A env scope cl x ifs elt Fin it s₂ := by
  obtain ⟨fp, St, rfl, W, hst, hfp, hsz2, sm, kp⟩ := H
  refine ⟨_, fp, _, n, P, St, fun C D i ys s' => s.heap.objs.size < C ∧ s.heap.objs.size < D ∧ Same s s' ∧ Keep s.heap s'.heap ∧ Jp i ys, rfl, ⟨W, hsz, hst, hfp, ?_, ?_, ?_⟩, ?_⟩
  · intro C D h' tk hCD hC hD hk
    exact ⟨by (first | lia | omega), by (first | lia | omega), sm.set _ _, fun b o e => hk b o (kp b o e), j0⟩
  · rintro C D i ys s₁ h' tk ⟨hC, hD, a, b, c⟩ hk
    refine ⟨hC, hD, a.set _ _, fun d o e => hk d o (fun q => ?_) (fun q => ?_) (fun q => ?_) (b d o e), c⟩
    · have := Heap.lt_size e; rw [List.mem_singleton.mp q] at this; exact Nat.lt_irrefl _ this
    · have h1 := Heap.lt_size e; rw [q] at h1; exact Nat.lt_irrefl _ (Nat.lt_trans h1 hC)
    · have h1 := Heap.lt_size e; rw [q] at h1; exact Nat.lt_irrefl _ (Nat.lt_trans h1 hD)
  · rintro C D i ys v s₃ m₃ E' _ _ hi hP ⟨hC, hD, a, b, c⟩ hn hm _ _
    refine wpAny_mono (turn C i ys v s₃ m₃ E' hi hP c a b hn hm) (fun ok s₄ h₄ => ?_) fun _ _ e => e
    obtain ⟨sm₄, k₄, h₄⟩ := h₄
    refine ⟨Stab.of k₄, ?_⟩
    cases ok with
    | false => simp only [Bool.false_eq_true, if_false] at h₄ ⊢; exact ⟨hC, hD, a.trans sm₄, fun d o e => k₄ d o (b d o e), h₄⟩
    | true =>
      simp only [if_true] at h₄ ⊢
      exact wpAny_mono h₄ (fun y s₅ h₅ => ⟨Stab.of h₅.2.1, hC, hD, (a.trans sm₄).trans h₅.1, fun d o e => h₅.2.1 d o (k₄ d o (b d o e)), h₅.2.2⟩) fun _ _ e => e
  · rintro C D ys s' hCD _ _ ⟨hC, hD, a, b, c⟩ _ hp
    exact done C D ys s' hCD hC hD c a b hp

/-- a comprehension whose elements are new lists of ints -/
theorem compIn_o (H : IterAt prog w A n P s it s₂) (hsz : n ≤ sizeLine) (Jp : Nat → List (List Int) → Prop) (j0 : Jp 0 [])
    (turn : ∀ C i v s₃ m₃ E', i < n → P i v → Same s s₃ → Keep s.heap s₃.heap → s₃.heap.Ns C m₃ → m₃ x = some v →
      wpAny (model prog w) A (testsOf ifs (compEnvC scope cl C env)) (fun ok s₄ => Same s₃ s₄ ∧ Keep s₃.heap s₄.heap ∧ ok = true ∧
        wpAny (model prog w) A (eval elt (compEnvC scope cl C env)) (fun y s₅ => Same s₄ s₅ ∧ Keep s₄.heap s₅.heap ∧ ∃ T its c, y = .ref T ∧ s₄.heap.objs.size ≤ T ∧ s₅.heap.IsList T its.toArray ∧ IntsAre its c ∧ ∀ css, Jp i css → Jp (i + 1) (css ++ [c])) E' s₄) E' s₃)
    (done : ∀ C D ys css s', C ≠ D → s.heap.objs.size < C → s.heap.objs.size < D → Jp n css → Paired (IsI s'.heap) ys css → (∀ y ∈ ys, y ≠ .ref C) → Same s s' → Keep s.heap s'.heap → s'.heap.PlainList D ys.toArray → Fin C D ys s₂ s') :
    CompIn prog w A env scope cl x ifs elt Fin it s₂ := by
  obtain ⟨fp, St, rfl, W, hst, hfp, hsz2, sm, kp⟩ := H
  let NewI : Addr → Addr → Heap → Value → List Int → Prop := fun C D h y c => ∃ T its, y = .ref T ∧ h.IsList T its.toArray ∧ IntsAre its c ∧ T ≠ s.heap.objs.size ∧ T ≠ C ∧ T ≠ D
  refine ⟨_, fp, _, n, P, St, fun C D i ys s' => s.heap.objs.size < C ∧ s.heap.objs.size < D ∧ Same s s' ∧ Keep s.heap s'.heap ∧ ∃ css, Jp i css ∧ Paired (NewI C D s'.heap) ys css, rfl, ⟨W, hsz, hst, hfp, ?_, ?_, ?_⟩, ?_⟩
  · intro C D h' tk hCD hC hD hk
    exact ⟨by (first | lia | omega), by (first | lia | omega), sm.set _ _, fun b o e => hk b o (kp b o e), [], j0, .nil⟩
  · rintro C D i ys s₁ h' tk ⟨hC, hD, a, b, css, c, hp⟩ hk
    refine ⟨hC, hD, a.set _ _, fun d o e => hk d o (fun q => ?_) (fun q => ?_) (fun q => ?_) (b d o e), css, c, hp.mono fun y c' hy => ?_⟩
    · have := Heap.lt_size e; rw [List.mem_singleton.mp q] at this; exact Nat.lt_irrefl _ this
    · have h1 := Heap.lt_size e; rw [q] at h1; exact Nat.lt_irrefl _ (Nat.lt_trans h1 hC)
    · have h1 := Heap.lt_size e; rw [q] at h1; exact Nat.lt_irrefl _ (Nat.lt_trans h1 hD)
    · obtain ⟨T, its, e, hl, hi, n1, n2, n3⟩ := hy
      exact ⟨T, its, e, hl.at fun o e => hk T o (fun q => n1 (List.mem_singleton.mp q)) n2 n3 e, hi, n1, n2, n3⟩
  · rintro C D i ys v s₃ m₃ E' _ _ hi hP ⟨hC, hD, a, b, css, c, hp⟩ hn hm ⟨oD, hoD⟩ _
    obtain ⟨oC, _, _, hoC, _⟩ := id hn
    refine wpAny_mono (turn C i v s₃ m₃ E' hi hP a b hn hm) (fun ok s₄ h₄ => ?_) fun _ _ e => e
    obtain ⟨sm₄, k₄, rfl, h₄⟩ := h₄
    refine ⟨Stab.of k₄, ?_⟩
    simp only [if_true]
    refine wpAny_mono h₄ (fun y s₅ h₅ => ?_) fun _ _ e => e
    obtain ⟨sm₅, k₅, T, its, c', rfl, hT, hl, hi', hjp⟩ := h₅
    have ltC := Heap.lt_size (k₄ _ _ hoC)
    have ltD := Heap.lt_size (k₄ _ _ hoD)
    refine ⟨Stab.of k₅, hC, hD, (a.trans sm₄).trans sm₅, fun d o e => k₅ d o (k₄ d o (b d o e)), css ++ [c'], hjp css c, Paired.snoc (hp.mono fun y c' hy => ?_) ⟨T, its, rfl, hl, hi', ?_, ?_, ?_⟩⟩
    · obtain ⟨T, its, e, hl, hi, n1, n2, n3⟩ := hy
      exact ⟨T, its, e, stays_list k₅ (stays_list k₄ hl), hi, n1, n2, n3⟩
    · exact Nat.ne_of_gt (Nat.lt_of_lt_of_le (Nat.lt_trans hD ltD) hT)
    · exact Nat.ne_of_gt (Nat.lt_of_lt_of_le ltC hT)
    · exact Nat.ne_of_gt (Nat.lt_of_lt_of_le ltD hT)
  · rintro C D ys s' hCD _ _ ⟨hC, hD, a, b, css, c, hp⟩ _ hpl
    refine done C D ys css s' hCD hC hD c (hp.mono fun y c' hy => ?_) (fun y hy q => ?_) a b hpl
    · obtain ⟨T, its, e, hl, hi, _⟩ := hy
      exact ⟨T, its, e, hl, hi⟩
    · obtain ⟨j, hj, rfl⟩ := List.getElem_of_mem hy
      obtain ⟨c', _, T, its, e, _, _, _, n2, _⟩ := paired_at hp (List.getElem?_eq_getElem hj)
      rw [q] at e; cases e; exact n2 rfl
end

theorem tests_nil {C : Env} {A : Around} {s : Shared} {Q : Bool → Shared → Prop} (h : Q true s) : wpAny (model prog w) A (testsOf [] C) Q E s := wpAny_pure h
theorem tests_one {C : Env} {c : Expr} {s : Shared} {Q : Bool → Shared → Prop} (h : wpAny (model prog w) A (isTrue c C (eval c C)) Q E s) : wpAny (model prog w) A (testsOf [c] C) Q E s := by
  unfold testsOf
  rw [List.forIn_cons]
  simp only [if_true]
  refine wpAny_bind (wpAny_bind (wpAny_mono h (fun b s' hb => wpAny_pure ?_) fun _ _ e => e))
  exact wpAny_pure hb
end
end Mine
namespace Mine
open PySem PySem.W PySem.Calls PyProof.Rows

theorem list_ne_ns {h : Heap} {T L : Addr} {its : Array Value} {m : Str → Option Value} (hl : h.IsList T its) (hn : h.Ns L m) : T ≠ L := by
  rintro rfl
  obtain ⟨o, ho, _, n, hd⟩ := hl
  obtain ⟨o', es, ep, ho', hd', _⟩ := hn
  rw [ho] at ho'; cases ho'
  rw [hd] at hd'; cases hd'

section
variable {g : Heap} {L C D : Addr} {m : Str → Option Value} {news : List (Addr × Obj)} {s s₂ s' : Shared} {ys : List Value} {y : Str} {Z : Heap → Nat → Prop}

theorem news_new {h' : Heap} {q : Nat} (F : Fr g L s.heap m) (N : News g L s.heap news) (kp : Keep s.heap s'.heap) (hD : s.heap.objs.size < D) (hC : s.heap.objs.size < C)
    (hk : ∀ b o, b ≠ L → b ≠ C → s'.heap.get? b = some o → h'.get? b = some o) (e : h'.get? D = some (listOf ys.toArray q)) : News g L h' ((D, listOf ys.toArray q) :: news) := by
  intro p hp
  rcases List.mem_cons.mp hp with rfl | hp
  · refine ⟨e, fun z => ?_, ?_⟩
    · have := F.ns.lt; rw [← show D = L from z] at this; exact Nat.lt_irrefl _ (Nat.lt_trans this hD)
    · cases e' : g.get? D with
      | none => rfl
      | some o => exact absurd (Heap.lt_size (F.keep _ _ e')) (Nat.not_lt.mpr (Nat.le_of_lt hD))
  · refine ⟨hk _ _ (N p hp).2.1 (fun z => ?_) (kp _ _ (N p hp).1), (N p hp).2⟩
    have := Heap.lt_size (N p hp).1
    rw [z] at this; exact Nat.lt_irrefl _ (Nat.lt_trans this hC)

/-- a comprehension's list goes into the frame and onto the ledger -/
theorem fin_assign (F : Fr g L s.heap m) (N : News g L s.heap news) (k₂ : Keep s.heap s₂.heap) (kp : Keep s.heap s'.heap) (hC : s.heap.objs.size < C) (hD : s.heap.objs.size < D)
    (k : ∀ h' tk q, Fr g L h' (up m y (.ref D)) → News g L h' ((D, listOf ys.toArray q) :: news) → (∀ b o, b ≠ L → b ≠ C → s'.heap.get? b = some o → h'.get? b = some o) → Z h' tk) :
    ∃ m, Fr g L s'.heap m ∧ Keep g s₂.heap ∧ (∃ oL, s₂.heap.get? L = some oL) ∧ ∀ h' tk, Fr g L h' (up m y (.ref D)) → h'.PlainList D ys.toArray →
        (∀ b o, b ≠ L → b ≠ C → s'.heap.get? b = some o → h'.get? b = some o) → Z h' tk := by
  obtain ⟨oL, _, _, hoL, _⟩ := id F.ns
  refine ⟨m, F.keeps kp, fun b o e => k₂ b o (F.keep b o e), ⟨oL, k₂ _ _ hoL⟩, fun h' tk F' hp hk => ?_⟩
  obtain ⟨q, e⟩ := hp
  exact k h' tk q F' (news_new F N kp hD hC hk e) hk

theorem paired_moved {h' : Heap} {css : List (List Int)} {mm : Str → Option Value} (hp : Paired (IsI s'.heap) ys css) (hn : s'.heap.Ns L mm) (hC : ∀ y ∈ ys, y ≠ .ref C) (hk : ∀ b o, b ≠ L → b ≠ C → s'.heap.get? b = some o → h'.get? b = some o) : Paired (IsI h') ys css := by
  have key : ∀ {ys : List Value} {css : List (List Int)}, Paired (IsI s'.heap) ys css → (∀ y ∈ ys, y ≠ .ref C) → Paired (IsI h') ys css := by
    intro ys css hp
    induction hp with
    | nil => intro _; exact .nil
    | cons r t ih =>
      intro hC
      obtain ⟨b, its, e, hl, hi⟩ := r
      refine .cons ⟨b, its, e, hl.at fun o e' => hk b o (list_ne_ns hl hn) (fun z => hC _ (List.mem_cons_self ..) (by rw [e, z])) e', hi⟩ (ih fun y hy => hC y (List.mem_cons_of_mem _ hy))
  exact key hp hC
end
end Mine
namespace Mine
open PySem PySem.W PySem.Calls PyProof.Rows

section
variable {prog : Program} {w : World} {A : Around} {E : Value → Shared → Prop} {s : Shared} {g : Heap} {L : Addr} {m : Str → Option Value} {news news' : List (Addr × Obj)}

theorem r_range1 {n : Int} {t : Tok} {Q : Value → Shared → Prop} (F : Fr g L s.heap m) (N : News g L s.heap news)
    (h : ∀ r h' tk t₀ u₀ v₀, Fr g L h' m → News g L h' news → IsRange h' r 0 n 1 t₀ u₀ v₀ → Keep s.heap h' → Q (.ref r) { s with heap := h', toks := tk }) :
    wpAny (model prog w) A (call (.type "range") [.int n t]) Q E s :=
  call_range_1 (h _ _ _ _ _ _ (F.push _) (N.grown fun b o e => Heap.get?_push_of_some _ e) (IsRange.new ..) fun b o e => Heap.get?_push_of_some _ e)
theorem r_range2 {a b : Int} {t u : Tok} {Q : Value → Shared → Prop} (F : Fr g L s.heap m) (N : News g L s.heap news)
    (h : ∀ r h' tk t₀ u₀ v₀, Fr g L h' m → News g L h' news → IsRange h' r a b 1 t₀ u₀ v₀ → Keep s.heap h' → Q (.ref r) { s with heap := h', toks := tk }) :
    wpAny (model prog w) A (call (.type "range") [.int a t, .int b u]) Q E s :=
  call_range_2 (h _ _ _ _ _ _ (F.push _) (N.grown fun b o e => Heap.get?_push_of_some _ e) (IsRange.new ..) fun b o e => Heap.get?_push_of_some _ e)
theorem range_size {a b : Int} {n : Nat} (h : b - a = n) : Builtin.Range.rangeSize a b 1 = (n : Int) := by
  rw [rangeSize_one]; split <;> (first | lia | omega)

theorem sm0 {n : Nat} (h : n ≤ 1000) : Builtin.Range.small 0 (n : Nat) 1 = true := small_one (by decide) (by decide) (by (first | lia | omega)) (by (first | lia | omega))
theorem sz0 (n : Nat) : Builtin.Range.rangeSize 0 (n : Nat) 1 = (n : Int) := range_size (Int.sub_zero _)
theorem sm1 {n : Nat} (h : n ≤ 1000) : Builtin.Range.small 1 ((n : Nat) + 1) 1 = true := small_one (by decide) (by decide) (by (first | lia | omega)) (by (first | lia | omega))
theorem sz1 (n : Nat) : Builtin.Range.rangeSize 1 ((n : Nat) + 1) 1 = (n : Int) := range_size (by (first | lia | omega))
theorem fm0 (a : Int) {k : Int} (h : 0 < k) : 0 ≤ a.fmod k := by rw [Int.fmod_eq_emod_of_nonneg _ (Int.le_of_lt h)]; exact Int.emod_nonneg _ (Int.ne_of_gt h)
theorem fm1 (a : Int) {k : Int} (h : 0 < k) : a.fmod k < k := by rw [Int.fmod_eq_emod_of_nonneg _ (Int.le_of_lt h)]; exact Int.emod_lt_of_pos _ h

/-- a list of the ledger's grows -/
theorem r_append {D : Addr} {its : List Value} {n : Nat} {x : Value} {Q : Value → Shared → Prop} (F : Fr g L s.heap m) (N : News g L s.heap news) (U : Upd D (listOf its.toArray n) (listOf (its ++ [x]).toArray (n + 1)) news news')
    (hsz : its.length ≤ 10000)
    (h : ∀ h', Fr g L h' m → News g L h' news' → Heap.SameBut D s.heap h' → Q .none { s with heap := h' }) : wpAny (model prog w) A (call (.builtin "list.append") [.ref D, x]) Q E s := by
  obtain ⟨pre, post, rfl, rfl, a, b⟩ := U.split
  have z := N (D, listOf its.toArray n) (List.mem_append.mpr (.inr (.head _)))
  refine append_at (hsz := by simp only [List.size_toArray]; exact Nat.le_trans hsz (by decide)) z.1 fun h' hs ho' => h h' (F.change hs z.2.1 z.2.2) (news_set N a b hs ?_) hs
  simpa using ho'

theorem r_tup {value slice : Expr} {T : Addr} {l : List Value} {k : Nat} {u : Tok} {x : Value} {Q : Value → Shared → Prop} (ht : IsTup s.heap T l.toArray) (hx : l[k]? = some x) (hk : (k : Int) < 2 ^ 63) (h : Q x s)
    (hs : subscripted slice false (.ref T) (.int k u) = operate [.ref T, .int k u] (getItem (.ref T) (.int k u))) :
    wpAny (model prog w) A (subscriptTail value slice (.ref T) (.int k u)) Q E s :=
  item_tupleT ht (by (first | lia | omega)) hk (by
    have : k < l.length := (List.getElem?_eq_some_iff.mp hx).1
    unfold seqIndex?
    simp; (first | lia | omega)) hx h hs
end

theorem news_cons {g h : Heap} {L I : Addr} {o : Obj} {news : List (Addr × Obj)} (N : News g L h news) (e : h.get? I = some o) (hL : I ≠ L) (hg : g.get? I = none) : News g L h ((I, o) :: news) := by
  intro p hp
  rcases List.mem_cons.mp hp with rfl | hp
  · exact ⟨e, hL, hg⟩
  · exact N p hp
theorem news_at {g h : Heap} {L I : Addr} {o : Obj} {news : List (Addr × Obj)} (N : News g L h news) (hm : (I, o) ∈ news) {h₁ : Heap} (e : h₁.get? I = some o) : ∀ o', h₁.get? I = some o' → h.get? I = some o' := fun o' e' => by
  rw [e] at e'; cases e'; exact N.get hm
theorem kept_g {g h h' : Heap} {L l : Addr} {m m' : Str → Option Value} {its : Array Value} (F : Fr g L h m) (F' : Fr g L h' m') (hl : g.IsList l its) : ∀ o, h.get? l = some o → h'.get? l = some o := fun o e => by
  obtain ⟨o', e', _⟩ := hl
  have := F.keep _ _ e'
  rw [e] at this; cases this
  exact F'.keep _ _ e'
theorem ne_frame {g h : Heap} {L : Addr} {m : Str → Option Value} (F : Fr g L h m) : h.objs.size ≠ L := fun e => by
  have := F.ns.lt; rw [← e] at this; exact Nat.lt_irrefl _ this
end Mine
namespace Mine
open PySem PySem.W PySem.Calls PyProof.Rows

/-- a list of ints, as an object of its own -/
def LsAt (h : Heap) (a : Addr) (ns : List Int) : Prop := ∃ vs q, h.get? a = some (listOf vs.toArray q) ∧ IntsAre vs ns
theorem LsAt.list {h : Heap} {a : Addr} {ns : List Int} (x : LsAt h a ns) : ∃ vs : List Value, h.IsList a vs.toArray ∧ IntsAre vs ns := let ⟨vs, q, e, hi⟩ := x; ⟨vs, ⟨_, e, rfl, q, rfl⟩, hi⟩
theorem LsAt.keep {h h' : Heap} {a : Addr} {ns : List Int} (x : LsAt h a ns) (k : Keep h h') : LsAt h' a ns := let ⟨vs, q, e, hi⟩ := x; ⟨vs, q, k _ _ e, hi⟩
theorem LsAt.lt {h : Heap} {a : Addr} {ns : List Int} (x : LsAt h a ns) : a < h.objs.size := let ⟨_, _, e, _⟩ := x; Heap.lt_size e

theorem keep_hid {g h : Heap} {as : List Addr} (k : Keep g h) (hg : ∀ a ∈ as, g.get? a = none) : Keep g (hideAll h as) := fun b o e => hideAll_get as (k b o e) fun hm => by rw [hg b hm] at e; cases e
theorem hid_keep {h h' : Heap} {as : List Addr} {a : Addr} {o : Obj} (k : Keep (hideAll h as) h') (e : h.get? a = some o) (hn : a ∉ as) : h'.get? a = some o := k _ _ (hideAll_get as e hn)
theorem fr_hid {g h h' : Heap} {L : Addr} {m : Str → Option Value} {as : List Addr} (F : Fr g L h m) (k : Keep (hideAll h as) h') (hg : ∀ a ∈ as, g.get? a = none) (hL : L ∉ as) : Fr g L h' m := by
  obtain ⟨oL, es, ep, hoL, r⟩ := F.ns
  exact ⟨⟨oL, es, ep, hid_keep k hoL hL, r⟩, fun b o e => k _ _ (keep_hid F.keep hg b o e), F.above⟩
theorem news_hid {g h h' : Heap} {L : Addr} {news : List (Addr × Obj)} {as : List Addr} (N : News g L h news) (k : Keep (hideAll h as) h') (hn : ∀ p ∈ news, p.1 ∉ as) : News g L h' news :=
  fun p hp => ⟨hid_keep k (N p hp).1 (hn p hp), (N p hp).2⟩
theorem ne_obj {h : Heap} {a b : Addr} {o o' : Obj} (e : h.get? a = some o) (e' : h.get? b = some o') (hn : o.data ≠ o'.data) : a ≠ b := fun q => hn (by subst q; rw [e] at e'; cases e'; rfl)

section
variable {prog : Program} {w : World} {A : Around} {E : Value → Shared → Prop} {s : Shared} {K : Frag} {p : Program} {loose : List Str} {mg mb : Str → Option Value} {g : Heap} {L : Addr} {m : Str → Option Value} {news news' : List (Addr × Obj)}

/-- an attribute of an instance's own -/
theorem r_attr {x C dx : Addr} {name : Str} {es : List DictEntry} {k : Nat} {v : Value} {expr : Bool} {attr : Option Value} {Q : Value → Shared → Prop} (G : Gd K p loose mg mb g) (F : Fr g L s.heap m)
    (hx : s.heap.get? x = some (instObj C dx)) (hdx : s.heap.get? dx = some (dictOf es k)) (hg : plainGet K C name = true) (hh : hasDictIn K C = true)
    (ha : findIn K (.ref C) name = some attr) (hn : noGet K attr = true) (hl : getL name es = some (some v)) (hv : handedIn v = true) (h : ∀ tk, Q v { s with toks := tk }) : wpAny (model prog w) A (getAttr (.ref x) name expr) Q E s :=
  get_own F G.x ⟨hx, rfl, rfl, hdx⟩ hg hh ha hn hl hv (h _)
/-- a method of an instance's class -/
theorem r_meth {x C dx f : Addr} {name : Str} {es : List DictEntry} {k : Nat} {pl : Sem Bool} {Q : Value × List Value → Shared → Prop} (G : Gd K p loose mg mb g) (F : Fr g L s.heap m)
    (hx : s.heap.get? x = some (instObj C dx)) (hdx : s.heap.get? dx = some (dictOf es k)) (hg : plainGet K C name = true) (hf : findIn K (.ref C) name = some (some (.ref f))) (ht : isFn K (.ref f) = true) (hl : getL name es = some none)
    (h : Q (.ref f, [.ref x]) s) : wpAny (model prog w) A (getMethod (.ref x) name pl) Q E s := method_inst F G.x ⟨hx, rfl, rfl, hdx⟩ hg hf ht hl h
/-- an item of a list of the ledger's is set -/
theorem r_set {D : Addr} {vs : List Value} {ns : List Int} {n : Nat} {k x : Int} {t u : Tok} {Q : Unit → Shared → Prop} (F : Fr g L s.heap m) (N : News g L s.heap news)
    (U : Upd D (listOf vs.toArray n) (listOf (vs.set k.toNat (.int x u)).toArray n) news news') (hi : IntsAre vs ns) (h0 : 0 ≤ k) (h1 : k < ns.length) (hfit : k < 2 ^ 63)
    (h : ∀ h', Fr g L h' m → News g L h' news' → IntsAre (vs.set k.toNat (.int x u)) (ns.set k.toNat x) → Q () { s with heap := h' }) :
    wpAny (model prog w) A (setItem (.ref D) (.int k t) (.int x u)) Q E s := ksa_set F N U hi h0 h1 hfit fun h' F' N' hi' _ _ => h h' F' N' hi'
end

section
variable {prog : Program} {w : World} {A : Around} {E : Value → Shared → Prop} {s : Shared} {g : Heap} {L a : Addr} {m : Str → Option Value} {news : List (Addr × Obj)} {cn : Str} {cs : Scope} {ccd : Value} {cl : List (Str × Addr)}
/-- «x, y = t» -/
theorem r_unpack2 {x₁ x₂ : Str} {p₁ p₂ pos : Pos} {kk : Nat} {T : Addr} {v₁ v₂ : Value} {Q : Unit → Shared → Prop} (hh : A.handled = none) (F : Fr g L s.heap m) (N : News g L s.heap news) (ht : IsTup s.heap T #[v₁, v₂])
    (h : ∀ h' tk, Fr g L h' (up (up m x₁ v₁) x₂ v₂) → News g L h' news → Keep g h' → Q () { s with heap := h', toks := tk })
    (hk : cs.kind = .function) (h₁ : (envX cn cs L a ccd cl).kindOf x₁ = some .local) (h₂ : (envX cn cs L a ccd cl).kindOf x₂ = some .local) :
    wpAny (model prog w) A (assign (.Tuple [.Name x₁ p₁, .Name x₂ p₂] kk pos) (envX cn cs L a ccd cl) (.ref T)) Q E s := by
  have ht' : s.heap.IsTuple T #[v₁, v₂] := ht
  refine wpAny_assign_Tuple hh ht' rfl rfl fun h' hx => ?_
  have kp : Keep s.heap h' := fun b o e => hx b o (Nat.ne_of_lt (Heap.lt_size e)) e
  show wpAny _ _ (do holding [v₂] (assign (.Name x₁ p₁) (envX cn cs L a ccd cl) v₁); do holding [] (assign (.Name x₂ p₂) (envX cn cs L a ccd cl) v₂); pure ()) _ _ _
  refine wpAny_bind (wpAny_holding (wpAny_assign_Name (r_store (s := { s with heap := h' }) (F.keeps kp) (N.grown kp) (fun h₁ tk F N _ => ?_) hk h₁)))
  refine wpAny_bind (wpAny_holding (wpAny_assign_Name (r_store F N (fun h₂ tk F N kg => ?_) hk h₂)))
  exact wpAny_pure (h h₂ tk F N kg)
end
end Mine
namespace Mine
open PySem PySem.W PySem.Calls PyProof.Rows

section
variable {prog : Program} {w : World} {A : Around} {E : Value → Shared → Prop} {s : Shared} {K : Frag} {p : Program} {loose : List Str} {mg mb : Str → Option Value} {g : Heap} {L : Addr} {m : Str → Option Value} {news news' : List (Addr × Obj)}

theorem enterCode {R : Result → Shared → Prop} {name qual : Str} {params : Arguments} {body : List Stmt} {scope : Scope} {dV kV doc pm cdv ct oc : Value} {an od : Option Addr} {osl : Array (Option Value)} {f : Addr} {args : List Value} {binds : List (Str × Value)}
    (G : Gd K p loose mg mb g) (hg : Keep g s.heap) (hsz : g.objs.size ≤ s.heap.objs.size)
    (ho : K.lookup f = some ⟨oc, od, .func (fnOf name qual params body scope dV kV doc pm an cdv ct), osl⟩) (hcd : codeIn K cdv qual = true) (hroom : A.depth < recursionLimit)
    (hbind : BindsTo s (fnOf name qual params body scope dV kV doc pm an cdv ct) ⟨args, []⟩ binds) (hloc : ∀ y ∈ binds, scope.names.lookup y.1 = some .local)
    (h : ∀ L h₁ tk, Fr g L h₁ (fun y => binds.reverse.lookup y) → Keep s.heap h₁ → s.heap.objs.size ≤ L →
      wpAny (model prog w) (A.deeper (envX qual scope L f cdv [])) (execs body (envX qual scope L f cdv []))
        (fun fl s' => R (.ok (.ret (match fl with | .ret v => v | _ => .none))) s') (fun _ _ => False) { s with heap := h₁, toks := tk })
    (hco : scope.isCoroutine = false) (hgen : scope.isGenerator = false) (hk : scope.kind = .function)
    (hcell : ∀ x ∈ scope.names, x.2 ≠ .cell) : codeAny (model prog w) A (.call (.ref f) ⟨args, []⟩) R s := by
  have X := G.x.keeps hg
  refine codeAny_call_def (fd := fnOf name qual params body scope dV kV doc pm an cdv ct) (body := body) (binds := binds) hroom (X _ _ ho) rfl (G.t.nolimit.keeps hg) (codeRec_of X hcd) rfl hbind hcell hloc (fun h₁ hns hk₁ => ?_) hco hgen hk
  exact wpAny_mono (h s.heap.objs.size h₁ _ ⟨hns, fun b o e => hk₁ b o (hg b o e), hsz⟩ hk₁ (Nat.le_refl _)) (fun fl s' q => q) fun _ _ q => q.elim

theorem enterCodeC {R : Result → Shared → Prop} {name qual : Str} {params : Arguments} {body : List Stmt} {scope : Scope} {dV kV doc pm cdv ct oc : Value} {an od : Option Addr} {osl : Array (Option Value)} {f : Addr} {args : List Value} {binds : List (Str × Value)}
    (G : Gd K p loose mg mb g) (hg : Keep g s.heap) (hsz : g.objs.size ≤ s.heap.objs.size)
    (ho : K.lookup f = some ⟨oc, od, .func (fnOf name qual params body scope dV kV doc pm an cdv ct), osl⟩) (hcd : codeIn K cdv qual = true) (hroom : A.depth < recursionLimit)
    (hbind : BindsTo s (fnOf name qual params body scope dV kV doc pm an cdv ct) ⟨args, []⟩ binds)
    (hkind : (binds.all fun y => scope.names.lookup y.1 == some .local || scope.names.lookup y.1 == some .cell) = true) (hnd : ((cellsFrom 0 scope.names []).map (·.1)).Nodup)
    (h : ∀ L h₁ tk cells, Fr g L h₁ (bindL (envX qual scope L f cdv (cellsFrom (L + 1) scope.names [])).kindOf binds fun _ => none) → News g L h₁ cells →
      CellsAre (bindC (envX qual scope L f cdv (cellsFrom (L + 1) scope.names [])).kindOf binds fun _ => none) (cellsFrom (L + 1) scope.names []) cells → Keep s.heap h₁ → s.heap.objs.size ≤ L →
      wpAny (model prog w) (A.deeper (envX qual scope L f cdv (cellsFrom (L + 1) scope.names []))) (execs body (envX qual scope L f cdv (cellsFrom (L + 1) scope.names [])))
        (fun fl s' => R (.ok (.ret (match fl with | .ret v => v | _ => .none))) s') (fun _ _ => False) { s with heap := h₁, toks := tk })
    (hco : scope.isCoroutine = false) (hgen : scope.isGenerator = false) (hk : scope.kind = .function) : codeAny (model prog w) A (.call (.ref f) ⟨args, []⟩) R s := by
  have X := G.x.keeps hg
  refine codeAny_call_function hroom (X _ _ ho) rfl hco hgen rfl (codeRec_of X hcd) (hbind _ _ _ _ ?_)
  refine wpAny_newFunctionEnv_cells hk (kindsX hkind _) fun env' he s' x => ?_
  subst he
  refine ⟨(G.t.nolimit.keeps hg).keeps x.toInCall.keep, codeAny_func ?_⟩
  obtain ⟨h₁, tk, rfl, _⟩ := x.done
  have hk₁ := x.toInCall.keep
  obtain ⟨cells, NC, Y⟩ := Cl.news (h₀ := s.heap) (Nat.le_refl _) fun n c hm => ⟨x.cell n c (lookup_of_mem_nodup (cellsFrom_names scope.names 0 (s.heap.objs.size + 1) [] [] rfl ▸ hnd) hm), x.above n c hm⟩
  refine wpAny_mono (h s.heap.objs.size h₁ tk cells ⟨x.toInCall.ns, fun b o e => hk₁ b o (hg b o e), hsz⟩ (fun q hq => ⟨(NC q hq).1, (NC q hq).2.1, ?_⟩) Y hk₁ (Nat.le_refl _)) (fun fl s' q => q) fun _ _ q => q.elim
  cases e : g.get? q.1 with
  | none => rfl
  | some o => have := hg _ _ e; rw [(NC q hq).2.2] at this; cases this

/-- a class of the text's is called: what its __init__ must do -/
theorem r_make {C fI : Addr} {pos : List Value} {Q : Value → Shared → Prop} (G : Gd K p loose mg mb s.heap) (hm : makesIn K C = true) (hi : findIn K (.ref C) "__init__" = some (some (.ref fI))) (hf : isFn K (.ref fI) = true)
    (h : ∀ x dx h', x = s.heap.objs.size + 1 → dx = s.heap.objs.size → Keep s.heap h' → h'.get? x = some (instObj C dx) → h'.get? dx = some (dictOf [] 0) → h'.objs.size = s.heap.objs.size + 2 →
      codeAny (model prog w) (A.under (.builtin "type.__call__" ⟨.ref C :: pos, []⟩)) (.call (.ref fI) ⟨.ref x :: pos, []⟩) (InitBack x fun r s' => match r with | .ok (.ret v) => Q v s' | .ok _ => False | .error e => E e s') { s with heap := h' }) :
    wpAny (model prog w) A (call (.ref C) pos) Q E s := by
  refine wpAny_call ?_
  have X := G.x
  obtain ⟨hh, gg, d, t, os⟩ := s
  refine make_core (makes_of X hm) (looks_findIn X hi) (fun self => bind_fn X self (beq_iff_eq.mp hf)) (.inl rfl) ?_
  have e1 : ((hh.push (dictOf [] 0)).push (instObj C hh.objs.size)).get? (hh.objs.size + 1) = some (instObj C hh.objs.size) := by
    have := Heap.get?_push_size (h := hh.push (dictOf [] 0)) (o := instObj C hh.objs.size) rfl
    rwa [Heap.size_push] at this
  exact h (hh.objs.size + 1) hh.objs.size ((hh.push (dictOf [] 0)).push (instObj C hh.objs.size)) rfl rfl (fun b o e => Heap.get?_push_of_some _ (Heap.get?_push_of_some _ e)) e1 (Heap.get?_push_of_some _ (Heap.get?_push_size _ rfl)) (by rw [Heap.size_push, Heap.size_push])
theorem Room.make {A : Around} {d : Nat} (R : Room A (d + 1)) (C : Addr) (pos : List Value) : Room (A.under (.builtin "type.__call__" ⟨.ref C :: pos, []⟩)) d :=
  ⟨R.handled, by have := R.depth; show A.depth + 1 + d < recursionLimit; (first | lia | omega), by
    have := R.units
    have e : (A.under (.builtin "type.__call__" ⟨.ref C :: pos, []⟩)).units = A.units + (Code.builtin "type.__call__" ⟨.ref C :: pos, []⟩).cUnits := rfl
    have e2 : (Code.builtin "type.__call__" ⟨.ref C :: pos, []⟩).cUnits ≤ 8 := Nat.le_of_ble_eq_true rfl
    rw [e]; (first | lia | omega)⟩

/-- an attribute is set: the instance's names lie in the ledger -/
theorem r_setattr {x C dx : Addr} {name : Str} {es : List DictEntry} (es' : Tok → List DictEntry) {k : Nat} (k' : Nat) {v : Value} {news' : Tok → List (Addr × Obj)} {Q : Unit → Shared → Prop} (G : Gd K p loose mg mb g) (F : Fr g L s.heap m) (N : News g L s.heap news)
    (hx : s.heap.get? x = some (instObj C dx)) (hs : findIn K (.ref C) "__setattr__" = some (some (.builtin "object.__setattr__"))) (hp : plainOver K C = true) (ht : takerIn K C name = some none) (hh : hasDictIn K C = true) (hl : (getL name es).isSome = true)
    (e : ∀ t, (putL name (PyData.keyHash w.params name) (.str name t) v es, putN name es k) = (es' t, k')) (U : ∀ t, Upd dx (dictOf es k) (dictOf (es' t) k') news (news' t)) (hz : ∀ t, (es' t).length ≤ 1000)
    (h : ∀ h' tk t, Fr g L h' m → News g L h' (news' t) → Q () { s with heap := h', toks := tk }) : wpAny (model prog w) A (setAttr (.ref x) name v) Q E s := by
  have hdx : s.heap.get? dx = some (dictOf es k) := by
    obtain ⟨pre, post, e1, _, _, _⟩ := (U (s.toks + 1)).split
    exact N.get (by rw [e1]; exact List.mem_append_right _ (List.mem_cons_self ..))
  exact set_dict F G.x N ⟨hx, rfl, rfl, hdx⟩ rfl hs hp ht hh hl (e _) (U _) (hz _) (fun h' F' N' => h h' _ _ F' N')

theorem foldl_rep (v : Value) : ∀ (k : Nat) (acc : List Value), List.foldl (fun x1 x2 => x1 ++ x2) acc.toArray (List.replicate k #[v]) = (acc ++ List.replicate k v).toArray
  | 0, acc => by simp
  | k + 1, acc => by
    rw [List.replicate_succ, List.foldl_cons]
    have : acc.toArray ++ #[v] = (acc ++ [v]).toArray := by simp
    rw [this, foldl_rep v k (acc ++ [v])]
    simp [List.replicate_succ]
/-- «[v] * k» -/
theorem r_rep {l : Addr} {v : Value} {q k : Nat} {u : Tok} {Q : Value → Shared → Prop} (F : Fr g L s.heap m) (N : News g L s.heap news) (hl : s.heap.get? l = some (listOf #[v] q)) (hk : k ≤ 1000)
    (h : ∀ D h', Fr g L h' m → News g L h' ((D, listOf (List.replicate k v).toArray 0) :: news) → (∀ p ∈ news, p.1 < D) → Q (.ref D) { s with heap := h' }) :
    wpAny (model prog w) A (binaryOp .Mult (.ref l) (.int (k : Nat) u)) Q E s := by
  refine mul_list F N hl (by (first | lia | omega)) (by (first | lia | omega)) (by simp; (first | lia | omega)) fun h' F' N' => ?_
  have e := foldl_rep v k []
  simp only [List.nil_append] at e
  have e2 : List.foldl (fun x1 x2 => x1 ++ x2) #[] (List.replicate (if (#[v] : Array Value).isEmpty = true then 0 else ((k : Nat) : Int).toNat) #[v]) = (List.replicate k v).toArray := by
    rw [if_neg (by simp), Int.toNat_natCast]; exact e
  rw [e2] at N'
  exact h _ h' F' N' fun p hp => Heap.lt_size (N p hp).1
theorem ints_rep (t : Tok) : ∀ k : Nat, IntsAre (List.replicate k (.int 0 t)) (List.replicate k 0)
  | 0 => IntsAre.nil
  | k + 1 => by rw [List.replicate_succ, List.replicate_succ]; exact IntsAre.cons _ _ (ints_rep t k)
end
end Mine
namespace Mine
open PySem PySem.W PySem.Calls PyProof.Rows


section
variable {prog : Program} {w : World} {A : Around} {E : Value → Shared → Prop} {s : Shared} {K : Frag} {p : Program} {loose : List Str} {mg mb : Str → Option Value} {g : Heap} {L : Addr} {m : Str → Option Value} {news : List (Addr × Obj)} {news' : Nat → List (Addr × Obj)}



end
end Mine
namespace Mine
open PySem PySem.W PySem.Calls PyProof.Rows
section
variable {M : Model} {A : Around} {E : Value → Shared → Prop} {s : Shared} {g : Heap} {L a : Addr} {m : Str → Option Value} {cn : Str} {cs : Scope} {ccd : Value} {cl : List (Str × Addr)} {x : Str} {v : Value} {news : List (Addr × Obj)}
theorem r_storeB {Q : Unit → Shared → Prop} (F : Fr g L s.heap m) (N : News g L s.heap news)
    (h : ∀ h' tk, Fr g L h' (up m x v) → News g L h' news → (∀ b o, b ≠ L → s.heap.get? b = some o → h'.get? b = some o) → Q () { s with heap := h', toks := tk })
    (hk : cs.kind = .function) (hx : (envX cn cs L a ccd cl).kindOf x = some .local) : wpAny M A (storeName (envX cn cs L a ccd cl) x v) Q E s := by
  refine wpAny_storeName_local hx F.ns (fun h₂ hn₂ hs₂ => ?_) (by show (cs.kind == .class || (cs.kind == .module && _)) = false; rw [hk]; rfl)
  exact h h₂ _ (F.set hn₂ hs₂) (fun p hp => ⟨hs₂.extBut _ _ (N p hp).2.1 (N p hp).1, (N p hp).2⟩) (fun b o hb e => hs₂.extBut b o hb e)
end
end Mine
namespace Mine
open PySem PySem.W PySem.Calls PyProof.Rows
section
variable {prog : Program} {w : World} {A : Around} {E : Value → Shared → Prop} {s s₂ : Shared} {K : Frag} {p : Program} {loose : List Str} {mg mb : Str → Option Value} {env : Env}

/-- «list(xs)» -/
theorem r_copy {l : Addr} {items : Array Value} {Q : Value → Shared → Prop} (hl : s.heap.IsList l items) (hsz : items.size ≤ sizeLine)
    (h : ∀ h' c, Keep s.heap h' → h'.get? s.heap.objs.size = some (listOf items c) → Q (.ref s.heap.objs.size) { s with heap := h' }) : wpAny (model prog w) A (call (.type "list") [.ref l]) Q E s := by
  obtain ⟨o, ho, hc, n, hd⟩ := hl
  exact call_list_seq (hsz := hsz) l (.inl rfl) ho hc hd fun h' c' hk hD => h h' c' hk hD

/-- «[list(c) for c in ..]» -/
theorem copies_in {scope : Scope} {cl : List (Str × Addr)} {x : Str} {p₁ p₂ p₃ : Pos} {vs : List Value} {css : List (List Int)} {it : Value} {Fin : Addr → Addr → List Value → Shared → Shared → Prop}
    (G : Gd K p loose mg mb s.heap) (hnl : nsIn K mainGlobals "list" = some none) (hcp : Paired (IsI s.heap) vs css) (hvs : vs.length ≤ 1000) (each : ∀ c ∈ css, c.length ≤ 1000)
    (hg : env.globals = mainGlobals) (hb : env.builtins = builtinsNs) (hk : ∀ C, (compEnvC scope cl C env).scope.kind = .function) (h1 : ∀ C, (compEnvC scope cl C env).kindOf "list" = some .globalImplicit) (h2 : ∀ C, (compEnvC scope cl C env).kindOf x = some .local) (hd : (x == ("__debug__" : Str)) = false)
    (H : IterAt prog w A vs.toArray.size (fun i v => vs.toArray[i]? = some v) s it s₂)
    (done : ∀ C D ys s', C ≠ D → s.heap.objs.size < C → s.heap.objs.size < D → Paired (IsI s'.heap) ys css → (∀ y ∈ ys, y ≠ .ref C) → Same s s' → Keep s.heap s'.heap → s'.heap.PlainList D ys.toArray → Fin C D ys s₂ s') :
    CompIn prog w A env scope cl x [] (.Call (.Name "list" p₁) [.Name x p₂] [] p₃) Fin it s₂ := by
  have hlen : vs.toArray.size = css.length := by simp [paired_len hcp]
  refine compIn_o H (by simp only [List.size_toArray]; exact Nat.le_trans hvs (by decide)) (fun i c => c = css.take i) (by simp) ?_ ?_
  · intro C i v s₃ m₃ E' hi hv sm kp hn hm
    obtain ⟨c, hc, b, its, rfl, hbl, hbi⟩ := paired_at hcp (show vs[i]? = some v by simpa using hv)
    have hmem : c ∈ css := List.mem_of_getElem? hc
    refine tests_nil ⟨Same.refl _, Keep.refl _, rfl, ?_⟩
    refine Call_ ?_ rfl
    refine e_boot (G.keeps kp) (v := .type "list") (by boot_fast) hnl (by decide) ?_ hg hb (hk C) (h1 C) (by decide)
    refine Pv.callWith_type1 ?_ rfl rfl
    refine args_cons ?_ rfl
    refine e_local hn hm ?_ (hk C) (h2 C) hd
    refine args_nil ?_
    refine r_copy (stays_list kp hbl) (by simp only [List.size_toArray]; rw [hbi.length]; exact Nat.le_trans (each c hmem) (by decide)) (fun h' q k e => ?_)
    exact ⟨Same.of _ _ _, k, _, its, c, rfl, Nat.le_refl _, IsL.isList e, hbi, fun css' e' => by rw [e', List.take_add_one, hc]; rfl⟩
  · intro C D ys css' s' hCD hC hD hj hp hy sm kp hpl
    rw [hlen, List.take_length] at hj
    exact done C D ys s' hCD hC hD (hj ▸ hp) hy sm kp hpl
end
end Mine
namespace Mine
open PySem PySem.W PySem.Calls PyProof.Rows
section
variable {M : Model} {A : Around} {E : Value → Shared → Prop} {s : Shared} {g : Heap} {L a : Addr} {m : Str → Option Value} {cn : Str} {cs : Scope} {ccd : Value} {cl : List (Str × Addr)} {x : Str} {v : Value} {c : Addr} {o : Obj} {v₀ : Option Value}
/-- a cell's name is stored: nothing but the cell is turned -/
theorem r_storeC {Q : Unit → Shared → Prop} (F : Fr g L s.heap m) (hc : cl.lookup x = some c) (ho : s.heap.get? c = some o) (hcL : c ≠ L) (hcg : g.get? c = none) (hd : o.data = .cell v₀)
    (h : ∀ h' o', Fr g L h' m → h'.get? c = some o' → o'.data = .cell (some v) → (∀ b ob, b ≠ c → s.heap.get? b = some ob → h'.get? b = some ob) → Q () { s with heap := h' })
    (hk : cs.kind = .function) (hx : (envX cn cs L a ccd cl).kindOf x = some .cell) : wpAny M A (storeName (envX cn cs L a ccd cl) x v) Q E s := by
  refine wpAny_storeName_cell hk hx hc ⟨o, ho, hd⟩ fun h' hv hs => ?_
  obtain ⟨o', ho', hd'⟩ := hv
  refine h h' o' ⟨F.ns.sameBut hs (Ne.symm hcL), fun b ob e => (hs.2 b (fun q => ?_)).trans (F.keep b ob e), F.above⟩ ho' hd' (fun b ob hb e => hs.extBut b ob hb e)
  rw [q, hcg] at e; cases e
end
end Mine
namespace Mine
open PySem PySem.W PySem.Calls PyProof.Rows

/-- all is kept but what code tables hold -/
def KeepT (h h' : Heap) : Prop := ∀ b o, h.get? b = some o → (∀ ps, o ≠ tabObj ps) → h'.get? b = some o
theorem KeepT.of {h h' : Heap} (k : Keep h h') : KeepT h h' := fun b o e _ => k b o e
theorem KeepT.refl (h : Heap) : KeepT h h := fun _ _ e _ => e
theorem KeepT.trans {a b c : Heap} (x : KeepT a b) (y : KeepT b c) : KeepT a c := fun d o e n => y d o (x d o e n) n
theorem tab_cls {o : Obj} {c : Value} (h : o.cls = c) (hc : c ≠ .none) : ∀ ps, o ≠ tabObj ps := fun ps q => hc (by rw [← h, q])
theorem tab_data {o : Obj} (h : ∀ ps, o.data ≠ .fields ps) : ∀ ps, o ≠ tabObj ps := fun ps q => h ps (by rw [q])
theorem KeepT.list {h h' : Heap} {a : Addr} {its : Array Value} (k : KeepT h h') (x : h.IsList a its) : h'.IsList a its :=
  let ⟨o, e, hc, r⟩ := x; ⟨o, k _ _ e (tab_cls hc (by simp)), hc, r⟩
theorem KeepT.ns {h h' : Heap} {a : Addr} {m : Str → Option Value} (k : KeepT h h') (x : h.Ns a m) : h'.Ns a m :=
  let ⟨o, es, ep, e, hd, r⟩ := x; ⟨o, es, ep, k _ _ e (tab_data fun ps q => by rw [hd] at q; cases q), hd, r⟩
theorem KeepT.ll {h h' : Heap} {a : Addr} {css : List (List Int)} (k : KeepT h h') (x : IsLL h a css) : IsLL h' a css :=
  let ⟨vs, hl, hp⟩ := x; ⟨vs, k.list hl, hp.mono fun _ _ ⟨b, its, e, hl, hi⟩ => ⟨b, its, e, k.list hl, hi⟩⟩
theorem KeepT.cell {h h' : Heap} {c : Addr} {v : Option Value} (k : KeepT h h') (x : h.IsCell c v) : h'.IsCell c v :=
  let ⟨o, e, hd⟩ := x; ⟨o, k _ _ e (tab_data fun ps q => by rw [hd] at q; cases q), hd⟩
/-- a code's head, opened once -/
theorem hdOpen {h : Heap} {c P : Addr} (x : CodeHd h c P) : ∃ o, h.get? c = some o ∧ o.cls = .type "code" ∧ (∃ fs, o.data = .fields fs) ∧ ∀ h' : Heap, h'.get? c = some o → CodeHd h' c P := by
  obtain ⟨o, vs, file, tf, flags, tg, inF, text, tt, e, hc, hd, r⟩ := x
  exact ⟨o, e, hc, ⟨vs, hd⟩, fun h' e' => ⟨o, vs, file, tf, flags, tg, inF, text, tt, e', hc, hd, r⟩⟩
theorem hdLt {h : Heap} {c P : Addr} (x : CodeHd h c P) : c < h.objs.size := by
  obtain ⟨_, e, _⟩ := hdOpen x
  exact Heap.lt_size e
theorem KeepT.hdr {h h' : Heap} {c P : Addr} (k : KeepT h h') (x : CodeHd h c P) : CodeHd h' c P := by
  obtain ⟨o, e, hc, _, k'⟩ := hdOpen x
  exact k' _ (k _ _ e (tab_cls hc (by simp)))
theorem KeepT.frag {K : Frag} {h h' : Heap} (k : KeepT h h') (hK : noTabs K = true) (x : K.In h) : K.In h' := fun a o e => by
  refine k a o (x a o e) fun ps q => ?_
  have h2 := List.all_eq_true.mp hK (a, o) (mem_of_lookupK e)
  subst q
  exact absurd (show false = true from h2) Bool.false_ne_true
theorem Gd.keepT {K : Frag} {p : Program} {loose : List Str} {mg mb : Str → Option Value} {h h' : Heap} (G : Gd K p loose mg mb h) (k : KeepT h h') (hK : noTabs K = true) : Gd K p loose mg mb h' :=
  ⟨k.frag hK G.x, ⟨k.ns G.t.g, k.ns G.t.b, let ⟨mc, a, r⟩ := G.t.nolimit; ⟨mc, k.ns a, r⟩, G.t.builtins, G.t.free⟩⟩
theorem KeepT.bmod {h h' : Heap} {g bm : Addr} {mg : Str → Option Value} {ob : Obj} (k : KeepT h h') (x : BMod h g mg bm ob) : BMod h' g mg bm ob :=
  ⟨k.ns x.ns, x.name, x.ne, k _ _ x.obj (tab_data fun ps q => by rw [x.data] at q; cases q), x.cls, x.dict, x.data⟩
theorem KeepT.but {h h' : Heap} {P : Addr} {ps : Array Value} (e : h.get? P = some (tabObj ps)) (k : ∀ b o, b ≠ P → h.get? b = some o → h'.get? b = some o) : KeepT h h' := fun b o eb hn =>
  k b o (fun q => by rw [q, e] at eb; cases eb; exact hn _ rfl) eb

/-- a code and its table -/
def TabC (h : Heap) (c P : Addr) : Prop := CodeHd h c P ∧ ∃ ps, h.get? P = some (tabObj ps) ∧ TriplesOk ps.toList
theorem TabC.keep {h h' : Heap} {c P : Addr} (x : TabC h c P) (k : Keep h h') : TabC h' c P := let ⟨a, ps, e, t⟩ := x; ⟨a.keeps k, ps, k _ _ e, t⟩
theorem TabC.lt {h : Heap} {c P : Addr} (x : TabC h c P) : P < h.objs.size := by
  obtain ⟨_, _, e, _⟩ := x
  exact Heap.lt_size e
theorem TabC.move {h h' : Heap} {c P : Addr} (x : TabC h c P) (k : ∀ b o, b = c ∨ b = P → h.get? b = some o → h'.get? b = some o) : TabC h' c P := by
  obtain ⟨a, ps, e, t⟩ := x
  obtain ⟨o, e1, _, _, k'⟩ := hdOpen a
  exact ⟨k' _ (k _ _ (.inl rfl) e1), ps, k _ _ (.inr rfl) e, t⟩
/-- a def's code whose table may hold the code of one generator expression -/
def HInv (Av : Addr → Prop) (pos : Pos) (c P : Addr) (h : Heap) : Prop := CodeHd h c P ∧ ∃ ps, h.get? P = some (tabObj ps) ∧ TriplesOk ps.toList ∧ (codeAmong pos ps.toList = none ∨ ∃ c' P', codeAmong pos ps.toList = some (.ref c') ∧ (P' ≠ P ∧ Av P' ∧ Av c') ∧ TabC h c' P')
theorem HInv.keep {Av : Addr → Prop} {pos : Pos} {c P : Addr} {h h' : Heap} (x : HInv Av pos c P h) (k : Keep h h') : HInv Av pos c P h' :=
  let ⟨a, ps, e, t, r⟩ := x; ⟨a.keeps k, ps, k _ _ e, t, r.imp id fun ⟨c', P', f, n, T⟩ => ⟨c', P', f, n, T.keep k⟩⟩
theorem HInv.mono {Av Av' : Addr → Prop} {pos : Pos} {c P : Addr} {h : Heap} (x : HInv Av pos c P h) (k : ∀ b, Av b → b < h.objs.size → Av' b) : HInv Av' pos c P h :=
  let ⟨a, ps, e, t, r⟩ := x; ⟨a, ps, e, t, r.imp id fun ⟨c', P', f, n, T⟩ => ⟨c', P', f, ⟨n.1, k _ n.2.1 T.lt, k _ n.2.2 (hdLt T.1)⟩, T⟩⟩
theorem HInv.step {Av : Addr → Prop} {pos : Pos} {c P : Addr} {h h' : Heap} {bad : List Addr} (x : HInv Av pos c P h) (hc : c ∉ bad) (hP : P ∉ bad) (hav : ∀ b, Av b → b ∉ bad) (k : ∀ b o, b ∉ bad → h.get? b = some o → h'.get? b = some o) : HInv Av pos c P h' := by
  obtain ⟨a, ps, e2, t, alt⟩ := x
  obtain ⟨o, e, _, _, k'⟩ := hdOpen a
  refine ⟨k' _ (k _ _ hc e), ps, k _ _ hP e2, t, alt.imp id ?_⟩
  rintro ⟨c', P', f, n, T⟩
  exact ⟨c', P', f, n, T.move fun b o hb e => k b o (by rcases hb with q | q <;> rw [q] <;> first | exact hav _ n.2.2 | exact hav _ n.2.1) e⟩
theorem HInv.first {Av : Addr → Prop} {pos : Pos} {c P : Addr} {h : Heap} (a : CodeHd h c P) (e : h.get? P = some (tabObj #[])) : HInv Av pos c P h := ⟨a, #[], e, trivial, .inl rfl⟩

section
variable {M : Model} {A : Around} {E : Value → Shared → Prop} {s : Shared} {env : Env}
/-- the code of a generator expression of a def's -/
theorem code_get {Av : Addr → Prop} {pos : Pos} {c P : Addr} {qual : Str} {scope : Scope} {Q : Value → Shared → Prop} (hc : env.code = .ref c) (hz : ∀ x, @LE.le Nat _ s.heap.objs.size x → Av x) (H : HInv Av pos c P s.heap)
    (h : ∀ c' P' h' tk, KeepT s.heap h' → (∀ b o, b ≠ P → s.heap.get? b = some o → h'.get? b = some o) → HInv Av pos c P h' → TabC h' c' P' → (P' ≠ P ∧ Av P' ∧ Av c') → (∃ ps, h'.get? P = some (tabObj ps) ∧ codeAmong pos ps.toList = some (.ref c')) → Q (.ref c') { s with heap := h', toks := tk }) :
    wpAny M A (genexprCode env pos qual scope) Q E s := by
  obtain ⟨a, ps, e, t, r⟩ := H
  rcases r with hn | ⟨c', P', hf, hne, T⟩
  · refine wpAny_genexprCodeX hc (a.code e t) (a.tab e) hn (fun c' h' tk hx l1 l2 hcode hrec htab htab' => ?_)
    obtain ⟨P', lP, hc', ht'⟩ := htab'
    have hP : h'.get? P = some (tabObj (ps ++ #[rawInt pos.line, rawInt pos.col, .ref c'])) := htab.2
    have hf : codeAmong pos (ps ++ #[rawInt pos.line, rawInt pos.col, .ref c']).toList = some (.ref c') := by
      rw [Array.toList_append]; exact codeAmong_snoc _ t hn
    have tr : TriplesOk (ps ++ #[rawInt pos.line, rawInt pos.col, .ref c']).toList := by
      rw [Array.toList_append]; exact TriplesOk_snoc _ _ _ _ t
    have TC : TabC h' c' P' := ⟨CodeHd.of hc' ht', #[], ht'.2, trivial⟩
    have hne : P' ≠ P ∧ Av P' ∧ Av c' := ⟨Nat.ne_of_gt (Nat.lt_of_lt_of_le (Heap.lt_size e) lP), hz _ lP, hz _ l1⟩
    exact h c' P' h' tk (KeepT.but e fun b o hb eb => hx b o hb eb) (fun b o hb eb => hx b o hb eb) ⟨CodeHd.of hcode htab, _, hP, tr, .inr ⟨c', P', hf, hne, TC⟩⟩ TC hne ⟨_, hP, hf⟩
  · refine wpAny_genexprCode_hit hc (a.code e t) hf ?_
    exact h c' P' s.heap s.toks (KeepT.refl _) (fun _ _ _ e => e) ⟨a, ps, e, t, .inr ⟨c', P', hf, hne, T⟩⟩ T hne ⟨ps, e, hf⟩
end
end Mine
namespace Mine
open PySem PyProof.Rows
section
variable {prog : Program} {w : World} {A : Around}

def protoJ (ex fp : List Addr) (n₀ : Nat) (F : Nat → Value → Prop) (J : Heap → Prop) : Protocol := fun m s₀ v s kap =>
  F (n₀ - 1 - m) v ∧ Calm ex s₀ s ∧ J s.heap ∧ ∀ s'' : Shared, (∀ b ∈ fp, ∀ o, s.heap.get? b = some o → s''.heap.get? b = some o) → kap (.send .none) s''
def endJ (ex : List Addr) (J : Heap → Prop) (n : Nat) (s₀ s₁ : Shared) : Prop := n = 0 ∧ Calm ex s₀ s₁ ∧ J s₁.heap

theorem seg_loopJ {elt iter : Expr} {x : Str} {px : Pos} {scope : Scope} {pos : Pos} {I : Addr} {fp₀ wr₀ fj we : List Addr} {n₀ : Nat} {P F : Nat → Value → Prop} {St₀ : Nat → Heap → Prop} {J : Heap → Prop} {cenv : Env}
    (hh : A.handled = none) (W₀ : ∀ A' : Around, A'.handled = none → Walks prog w A' I fp₀ wr₀ n₀ P St₀) (L : LieN cenv.locals fp₀ wr₀ fj we J)
    (hx : cenv.kindOf x = some .local) (hp : (cenv.scope.kind == .class || (cenv.scope.kind == .module && cenv.locals != cenv.globals)) = false)
    (hco : cenv.scope.isCoroutine = false) (hel : EltN prog w cenv x elt we n₀ P F J (A.depth + 1) (A.units + 3)) :
    ∀ (k i : Nat) (s₀ s : Shared) (m : Str → Option Value), n₀ - i = k → i ≤ n₀ → St₀ i s.heap → s.heap.Ns cenv.locals m → Calm (exN cenv.locals wr₀ we) s₀ s → J s.heap →
      Seg (model prog w) A (fun n s₀ r s₁ => r = .ok .next ∧ endJ (exN cenv.locals wr₀ we) J n s₀ s₁) (protoJ (exN cenv.locals wr₀ we) (fpN cenv.locals fp₀ fj) n₀ F J) k s₀
        (.compLoop (.GeneratorExp elt [⟨.Name x px, iter, [], 0⟩] scope pos) 0 (.ref I) .none cenv)
        ((model prog w).den (.compLoop (.GeneratorExp elt [⟨.Name x px, iter, [], 0⟩] scope pos) 0 (.ref I) .none cenv)) [] s := by
  have hh' : (A.over (.compLoop (.GeneratorExp elt [⟨.Name x px, iter, [], 0⟩] scope pos) 0 (.ref I) .none cenv) []).handled = none := hh
  have hdep' : (A.over (.compLoop (.GeneratorExp elt [⟨.Name x px, iter, [], 0⟩] scope pos) 0 (.ref I) .none cenv) []).depth ≤ A.depth + 1 := Nat.le_of_eq rfl
  have huni' : (A.over (.compLoop (.GeneratorExp elt [⟨.Name x px, iter, [], 0⟩] scope pos) 0 (.ref I) .none cenv) []).units ≤ A.units + 3 := Nat.le_of_eq rfl
  have hCw : cenv.locals ∉ wr₀ := fun h => L.cf ((W₀ A hh).sub _ h)
  have hCe : cenv.locals ∉ we := fun h => L.cj (L.ej _ h)
  have up0 : ∀ {h h' : Heap}, (∀ b o, b ∉ wr₀ → h.get? b = some o → h'.get? b = some o) → ∀ b o, b ∉ exN cenv.locals wr₀ we → h.get? b = some o → h'.get? b = some o :=
    fun hk b o hb e => hk b o (fun q => hb (List.mem_cons_of_mem _ (List.mem_append_left _ q))) e
  intro k
  induction k with
  | zero =>
    intro i s₀ s m hk hi hst hn hsince hj
    have hin : i = n₀ := by (first | lia | omega)
    subst hin
    show Seg _ A _ _ _ s₀ _ ((compTurn (.GeneratorExp elt [⟨.Name x px, iter, [], 0⟩] scope pos) 0 (.ref I) .none cenv).onRaise (leaving cenv)) [] s
    rw [compTurn_gen, Sem.onRaise_eq_wrap]
    refine seg_bind_wrap (wpAny_standAt ?_)
    refine seg_bind_wrap ((W₀ _ hh').done s _ _ hst fun h' tk hk' => ?_)
    exact seg_end (.ok .next) ⟨rfl, rfl, hsince.trans (.of (up0 hk')), L.st _ _ hj fun b hb o e => hk' b o (L.jw b hb) e⟩
  | succ k ih =>
    intro i s₀ s m hk hi hst hn hsince hj
    have hlt : i < n₀ := by (first | lia | omega)
    show Seg _ A _ _ _ s₀ _ ((compTurn (.GeneratorExp elt [⟨.Name x px, iter, [], 0⟩] scope pos) 0 (.ref I) .none cenv).onRaise (leaving cenv)) [] s
    rw [compTurn_gen, Sem.onRaise_eq_wrap]
    refine seg_bind_wrap (wpAny_standAt ?_)
    refine seg_bind_wrap ((W₀ _ hh').item i s _ _ hlt hst fun v h₁ tk₁ hPv hst₁ hk₁ => ?_)
    refine seg_bind_wrap (wpAny_of_eq (rfl : letOwnedTupleGo (.Name x px) (.ref I) v = pure ()) ?_)
    refine seg_bind_wrap (wpAny_assign_Name (wpAny_storeName_local hx (hn.at' fun o e => hk₁ _ o hCw e) (fun h₂ hn₂ hs₂ => ?_) hp))
    have up₂ : ∀ b o, b ≠ cenv.locals → b ∉ wr₀ → s.heap.get? b = some o → h₂.get? b = some o := fun b o hbC hbw e => hs₂.extBut b o hbC (hk₁ b o hbw e)
    have hst₂ : St₀ (i + 1) h₂ := (W₀ A hh).frame _ _ _ hst₁ fun b hb o e => hs₂.extBut b o (fun h => L.cf (h ▸ hb)) e
    have hj₂ : J h₂ := L.st _ _ hj fun b hb o e => up₂ b o (fun h => L.cj (h ▸ hb)) (L.jw b hb) e
    have hsince₂ : Calm (exN cenv.locals wr₀ we) s₀ { s with heap := h₂, toks := tk₁ + 1 } := hsince.trans (.of fun b o hb e => up₂ b o (fun h => hb (h ▸ List.mem_cons_self ..)) (fun q => hb (List.mem_cons_of_mem _ (List.mem_append_left _ q))) e)
    show Seg _ A _ _ _ s₀ _ (((do let v ← eval elt cenv; standAt elt.pos; let _ ← yieldOut cenv v; pure PUnit.unit) >>= fun _ => _).wrap _ _ _ _) [] _
    have hy : ∀ v, yieldOut cenv v = yieldValue v := fun v => by simp only [yieldOut, hco, Bool.false_eq_true, if_false]
    simp only [hy]
    rw [Sem.bind_eq_wrap', Sem.bind_eq_wrap', Sem.wrap_wrap, Sem.wrap_wrap]
    refine seg_wrap (wpAny_mono (hel _ _ i v _ _ hh' hdep' huni' hlt hPv hn₂ (by simp) hj₂) (fun y s₄ h₄ => ?_) fun _ _ e => e)
    obtain ⟨hFy, hc, hj₄⟩ := h₄
    have hidx : n₀ - 1 - k = i := by (first | lia | omega)
    refine seg_at (seg_yield rfl rfl rfl ⟨by rw [hidx]; exact hFy, hsince₂.trans (hc.mono fun b hb => List.mem_cons_of_mem _ (List.mem_append_right _ hb)), hj₄, fun s'' hal => ?_⟩)
    refine seg_again rfl (ih (i + 1) s'' s'' _ (by (first | lia | omega)) hlt ((W₀ A hh).frame _ _ _ hst₂ fun b hb o e => ?_) ((hn₂.at' fun o e => ?_)) (Calm.refl _ _) (L.st _ _ hj₄ fun b hb o e => ?_))
    · exact hal b (List.mem_cons_of_mem _ (List.mem_append_left _ hb)) o (hc.heap b o (fun q => L.ef b q hb) e)
    · exact hal _ (List.mem_cons_self ..) o (hc.heap _ o hCe e)
    · exact hal b (List.mem_cons_of_mem _ (List.mem_append_right _ hb)) o e

theorem seg_startJ {elt iter : Expr} {x : Str} {px : Pos} {scope : Scope} {pos : Pos} {I : Addr} {fp₀ wr₀ fj we : List Addr} {n₀ : Nat} {P F : Nat → Value → Prop} {St₀ : Nat → Heap → Prop} {J : Heap → Prop} {cenv : Env}
    (hh : A.handled = none) (W₀ : ∀ A' : Around, A'.handled = none → Walks prog w A' I fp₀ wr₀ n₀ P St₀) (L : LieN cenv.locals fp₀ wr₀ fj we J)
    (hx : cenv.kindOf x = some .local) (hp : (cenv.scope.kind == .class || (cenv.scope.kind == .module && cenv.locals != cenv.globals)) = false)
    (hco : cenv.scope.isCoroutine = false) (hel : EltN prog w cenv x elt we n₀ P F J (A.depth + 1) (A.units + 3))
    (s : Shared) (m : Str → Option Value) (hst : St₀ 0 s.heap) (hn : s.heap.Ns cenv.locals m) (hj : J s.heap) :
      Seg (model prog w) A (fun n s₀ r s₁ => r = .ok .next ∧ endJ (exN cenv.locals wr₀ we) J n s₀ s₁) (protoJ (exN cenv.locals wr₀ we) (fpN cenv.locals fp₀ fj) n₀ F J) n₀ s
        (.compStart (.GeneratorExp elt [⟨.Name x px, iter, [], 0⟩] scope pos) 0 (.ref I) .none cenv)
        ((model prog w).den (.compStart (.GeneratorExp elt [⟨.Name x px, iter, [], 0⟩] scope pos) 0 (.ref I) .none cenv)) [] s := by
  have hh' : (A.over (.compStart (.GeneratorExp elt [⟨.Name x px, iter, [], 0⟩] scope pos) 0 (.ref I) .none cenv) []).handled = none := hh
  have loop := seg_loopJ (iter := iter) (px := px) (scope := scope) (pos := pos) hh W₀ L hx hp hco hel n₀ 0 s s m (Nat.sub_zero _) (Nat.zero_le _) hst hn (Calm.refl _ _) hj
  show Seg _ A _ _ _ s _ ((compStart (.GeneratorExp elt [⟨.Name x px, iter, [], 0⟩] scope pos) 0 (.ref I) .none cenv).onRaise (leaving cenv)) [] s
  unfold compStart
  rw [Sem.onRaise_eq_wrap]
  show Seg _ A _ _ _ s _ ((ask >>= _).wrap _ _ _ _) [] s
  refine seg_bind_wrap (wpAny_askSetting ?_)
  split
  · exact seg_again rfl loop
  · first
      | exact seg_bind_wrap (wpAny_rule (seg_bind_wrap (wpAny_standAt (seg_bind_wrap ((W₀ _ hh').self 0 s _ _ hst (seg_again rfl loop))))))
      | (refine seg_bind_wrap (wpAny_rule ?_); show Seg _ A _ _ _ s _ ((standAt iter.pos >>= _).wrap _ _ _ _) [] s; exact seg_bind_wrap (wpAny_standAt (seg_bind_wrap ((W₀ _ hh').self 0 s _ _ hst (seg_again rfl loop)))))

/-- the generator g stands ahead of its item j -/
def AtJ (prog : Program) (w : World) (A : Around) (a : Addr) (g : Nat) (ex fp : List Addr) (n₀ : Nat) (F : Nat → Value → Prop) (J : Heap → Prop) (j : Nat) (s : Shared) : Prop :=
  s.heap.IsGen a g ∧ s.heap.NoLimit ∧ ∃ gs, s.gens[g]? = some gs ∧ ∀ s'' : Shared, (∀ b ∈ fp, ∀ o, s.heap.get? b = some o → s''.heap.get? b = some o) →
    gs.Goes (model prog w) A.in1 (fun n s₀ r s₁ => r = .ok .next ∧ endJ ex J n s₀ s₁) (protoJ ex fp n₀ F J) (n₀ - j) (.send .none) s''

theorem itemJ {ex fp : List Addr} {n₀ : Nat} {F : Nat → Value → Prop} {J : Heap → Prop} {a : Addr} {g j : Nat} {s : Shared} {Q : Option Value → Shared → Prop} {E : Value → Shared → Prop} (hh : A.handled = none) (haf : a ∉ fp) (hsub : ∀ b ∈ ex, b ∈ fp)
    (hroom : A.depth < recursionLimit) (hcw : cStatics ∉ ex) (hj : j < n₀) (st : AtJ prog w A a g ex fp n₀ F J j s)
    (hQ : ∀ v s', F j v → AtJ prog w A a g ex fp n₀ F J (j + 1) s' → Moved ex (FromG g) s s' → J s'.heap → Q (some v) s') : wpAny (model prog w) A (pyNext (.ref a)) Q E s := by
  obtain ⟨hg, hl, gs, hgs, hgo⟩ := st
  obtain ⟨m, hm⟩ : ∃ m, n₀ - j = m + 1 := ⟨n₀ - j - 1, by (first | lia | omega)⟩
  rw [hm] at hgo
  have haw : a ∉ ex := fun h => haf (hsub a h)
  refine wpAny_with_toks (Nat.le_refl s.toks) ?_
  refine wpAny_pyNext_genexpQ (P := endJ ex J) hh hl hroom hg hgs (hgo _ fun _ _ _ e => e) (fun v s₁ gs' hb hv => ?_) (fun s₁ hp h' hk => ?_)
  · obtain ⟨hF, hc, hJ, hkap⟩ := hv
    have hidx : n₀ - 1 - (m + 1 - 1) = j := by (first | lia | omega)
    rw [hidx] at hF
    intro htk
    have hg1 : s₁.gens[g]? = some .running := by
      rw [hc.gens.old g (by rw [setGen_size]; exact (Array.getElem?_eq_some_iff.mp hgs).1)]; exact setGen_self hgs
    refine hQ v _ hF ⟨let ⟨o, nm, qn, ho, r⟩ := hg; ⟨o, nm, qn, hc.heap a o haw ho, r⟩, (let ⟨mc, hns, hnn⟩ := hl; ⟨mc, hns.at' fun o e => hc.heap cStatics o hcw e, hnn⟩), gs', setGen_self hg1, fun s'' hal => ?_⟩
      ⟨fun b o hb e => hc.heap b o hb e, fromG_step hgs hc.gens hb, hc.drawn, hc.os, htk⟩ hJ
    have e : n₀ - (j + 1) = m := by (first | lia | omega)
    rw [e]
    exact hkap s'' hal
  · exact absurd hp.1 (Nat.succ_ne_zero m)
theorem doneJ {ex fp : List Addr} {n₀ : Nat} {F : Nat → Value → Prop} {J : Heap → Prop} {a : Addr} {g : Nat} {s : Shared} {Q : Option Value → Shared → Prop} {E : Value → Shared → Prop} (hh : A.handled = none)
    (hroom : A.depth < recursionLimit) (hJk : ∀ h h' : Heap, J h → Keep h h' → J h') (st : AtJ prog w A a g ex fp n₀ F J n₀ s)
    (hQ : ∀ s', Moved ex (FromG g) s s' → J s'.heap → Q none s') : wpAny (model prog w) A (pyNext (.ref a)) Q E s := by
  obtain ⟨hg, hl, gs, hgs, hgo⟩ := st
  rw [Nat.sub_self] at hgo
  refine wpAny_with_toks (Nat.le_refl s.toks) ?_
  refine wpAny_pyNext_genexpQ (P := endJ ex J) hh hl hroom hg hgs (hgo _ fun _ _ _ e => e) (fun v s₁ gs' hb hv => ?_) (fun s₁ hp h' hk => ?_)
  · obtain ⟨_, _, _, hkap⟩ := hv
    exact False.elim (hkap s₁ fun _ _ _ e => e)
  · obtain ⟨_, hc, hJ⟩ := hp
    intro htk
    exact hQ _ ⟨fun b o hb e => hk b o (hc.heap b o hb e), fromG_step hgs hc.gens rfl, hc.drawn, hc.os, htk⟩ (hJk _ _ hJ hk)

theorem fromG_trans {g : Nat} {a b c : Array GenState} (x : FromG g a b) (y : FromG g b c) : FromG g a c := ⟨Nat.le_trans x.size y.size, fun k hk => (y.old k hk).trans (x.old k hk), fun h => y.bare (x.bare h)⟩
theorem moved_trans {ex : List Addr} {g : Nat} {a b c : Shared} (x : Moved ex (FromG g) a b) (y : Moved ex (FromG g) b c) : Moved ex (FromG g) a c :=
  ⟨fun d o h e => y.heap d o h (x.heap d o h e), fromG_trans x.gens y.gens, y.drawn.trans x.drawn, y.os.trans x.os, Nat.le_trans x.toks y.toks⟩

section
variable {ex fp : List Addr} {n : Nat} {Fv : Nat → Value → Prop} {J : Heap → Prop} {a : Addr} {g : Nat} {R : Result → Shared → Prop}
theorem all_loopJ (hh : A.handled = none) (haf : a ∉ fp) (hsub : ∀ b ∈ ex, b ∈ fp) (hroom : A.depth < recursionLimit) (hcw : cStatics ∉ ex) (hJk : ∀ h h' : Heap, J h → Keep h h' → J h') (tr : Nat → Bool) (htr : TruthOf prog w A.in1 Fv tr) :
    ∀ (k i : Nat) (s : Shared), n - i = k → i ≤ n → AtJ prog w A.in1 a g ex fp n Fv J i s →
    (∀ s', Moved ex (FromG g) s s' → J s'.heap → R (.ok (.ret (.bool (((List.range n).drop i).all tr)))) s') → codeAny (model prog w) A (.builtin "all.loop" ⟨[.ref a], []⟩) R s := by
  intro k
  induction k with
  | zero =>
    intro i s hk hi hst hR
    have hin : i = n := by (first | lia | omega)
    subst hin
    refine codeAny_builtin F.entry_all_loop ?_
    rw [Around.under_plainId F.plain_all_loop _]
    show wpAny _ A.in1 (pyNext (.ref a) >>= _) _ _ s
    refine wpAny_bind (doneJ (A := A.in1) hh hroom hJk hst fun s' hm hJ => ?_)
    refine wpAny_bind (wpAny_rule (wpAny_pure ?_))
    have := hR s' hm hJ
    rw [List.drop_of_length_le (by simp)] at this
    exact this
  | succ k ih =>
    intro i s hk hi hst hR
    have hlt : i < n := by (first | lia | omega)
    have hd : (List.range n).drop i = i :: (List.range n).drop (i + 1) := by
      rw [List.drop_eq_getElem_cons (by simpa using hlt)]; simp
    refine codeAny_builtin F.entry_all_loop ?_
    rw [Around.under_plainId F.plain_all_loop _]
    show wpAny _ A.in1 (pyNext (.ref a) >>= _) _ _ s
    refine wpAny_bind (itemJ (A := A.in1) hh haf hsub hroom hcw hlt hst fun v s' hP hst' hm hJ => ?_)
    refine wpAny_bind (wpAny_holding (htr i v _ _ _ hP ?_))
    refine wpAny_bind (wpAny_letGo ?_)
    cases hb : tr i with
    | true =>
      simp only [if_true]
      refine wpAny_pure ⟨plainId_quiet F.plain_all_loop _, ih (i + 1) _ (by (first | lia | omega)) hlt hst' fun s'' hm' hJ' => ?_⟩
      have := hR s'' (moved_trans hm hm') hJ'
      rw [hd, List.all_cons, hb, Bool.true_and] at this
      exact this
    | false =>
      simp only [Bool.false_eq_true, if_false]
      refine wpAny_bind (wpAny_rule (wpAny_pure ?_))
      have := hR s' hm hJ
      rw [hd, List.all_cons, hb, Bool.false_and] at this
      exact this
theorem any_loopJ (hh : A.handled = none) (haf : a ∉ fp) (hsub : ∀ b ∈ ex, b ∈ fp) (hroom : A.depth < recursionLimit) (hcw : cStatics ∉ ex) (hJk : ∀ h h' : Heap, J h → Keep h h' → J h') (tr : Nat → Bool) (htr : TruthOf prog w A.in1 Fv tr) :
    ∀ (k i : Nat) (s : Shared), n - i = k → i ≤ n → AtJ prog w A.in1 a g ex fp n Fv J i s →
    (∀ s', Moved ex (FromG g) s s' → R (.ok (.ret (.bool (((List.range n).drop i).any tr)))) s') → codeAny (model prog w) A (.builtin "any.loop" ⟨[.ref a], []⟩) R s := by
  intro k
  induction k with
  | zero =>
    intro i s hk hi hst hR
    have hin : i = n := by (first | lia | omega)
    subst hin
    refine codeAny_builtin F.entry_any_loop ?_
    rw [Around.under_plainId F.plain_any_loop _]
    show wpAny _ A.in1 (pyNext (.ref a) >>= _) _ _ s
    refine wpAny_bind (doneJ (A := A.in1) hh hroom hJk hst fun s' hm _ => ?_)
    refine wpAny_bind (wpAny_rule (wpAny_pure ?_))
    have := hR s' hm
    rw [List.drop_of_length_le (by simp)] at this
    exact this
  | succ k ih =>
    intro i s hk hi hst hR
    have hlt : i < n := by (first | lia | omega)
    have hd : (List.range n).drop i = i :: (List.range n).drop (i + 1) := by
      rw [List.drop_eq_getElem_cons (by simpa using hlt)]; simp
    refine codeAny_builtin F.entry_any_loop ?_
    rw [Around.under_plainId F.plain_any_loop _]
    show wpAny _ A.in1 (pyNext (.ref a) >>= _) _ _ s
    refine wpAny_bind (itemJ (A := A.in1) hh haf hsub hroom hcw hlt hst fun v s' hP hst' hm _ => ?_)
    refine wpAny_bind (wpAny_holding (htr i v _ _ _ hP ?_))
    refine wpAny_bind (wpAny_letGo ?_)
    cases hb : tr i with
    | false =>
      simp only [Bool.false_eq_true, if_false]
      refine wpAny_pure ⟨plainId_quiet F.plain_any_loop _, ih (i + 1) _ (by (first | lia | omega)) hlt hst' fun s'' hm' => ?_⟩
      have := hR s'' (moved_trans hm hm')
      rw [hd, List.any_cons, hb, Bool.false_or] at this
      exact this
    | true =>
      simp only [if_true]
      refine wpAny_bind (wpAny_rule (wpAny_pure ?_))
      have := hR s' hm
      rw [hd, List.any_cons, hb, Bool.true_or] at this
      exact this
theorem call_anyJ {s : Shared} {Q : Value → Shared → Prop} {E : Value → Shared → Prop} (hh : A.handled = none) (haf : a ∉ fp) (hsub : ∀ b ∈ ex, b ∈ fp) (hroom : A.depth < recursionLimit) (hcw : cStatics ∉ ex) (hJk : ∀ h h' : Heap, J h → Keep h h' → J h') (tr : Nat → Bool) (htr : TruthOf prog w A.in1 Fv tr)
    (st : AtJ prog w A.in1 a g ex fp n Fv J 0 s) (hQ : ∀ s', Moved ex (FromG g) s s' → Q (.bool ((List.range n).any tr)) s') :
    wpAny (model prog w) A (call (.builtin "any") [.ref a]) Q E s := by
  refine call_function_tree F.kind_any F.plain_any F.entry_any (F.args_any1 _) ?_
  unfold Builtin.«any»
  refine wpAny_bind (m := oneArg "any" _) (wpAny_pure ?_)
  refine wpAny_bind (wpAny_pyIter_gen st.1 ?_)
  exact wpAny_pure ⟨plainId_quiet F.plain_any_loop _, any_loopJ hh haf hsub hroom hcw hJk tr htr n 0 s rfl (Nat.zero_le _) st fun s' hm => by simpa using hQ s' hm⟩
theorem call_allJ {s : Shared} {Q : Value → Shared → Prop} {E : Value → Shared → Prop} (hh : A.handled = none) (haf : a ∉ fp) (hsub : ∀ b ∈ ex, b ∈ fp) (hroom : A.depth < recursionLimit) (hcw : cStatics ∉ ex) (hJk : ∀ h h' : Heap, J h → Keep h h' → J h') (tr : Nat → Bool) (htr : TruthOf prog w A.in1 Fv tr)
    (st : AtJ prog w A.in1 a g ex fp n Fv J 0 s) (hQ : ∀ s', Moved ex (FromG g) s s' → J s'.heap → Q (.bool ((List.range n).all tr)) s') :
    wpAny (model prog w) A (call (.builtin "all") [.ref a]) Q E s := by
  refine call_function_tree F.kind_all F.plain_all F.entry_all (F.args_all1 _) ?_
  unfold Builtin.«all»
  refine wpAny_bind (m := oneArg "all" _) (wpAny_pure ?_)
  refine wpAny_bind (wpAny_pyIter_gen st.1 ?_)
  exact wpAny_pure ⟨plainId_quiet F.plain_all_loop _, all_loopJ hh haf hsub hroom hcw hJk tr htr n 0 s rfl (Nat.zero_le _) st fun s' hm hJ => by simpa using hQ s' hm hJ⟩
end


theorem atJ_fresh {elt iter : Expr} {x : Str} {px : Pos} {scope : Scope} {pos : Pos} {I a : Addr} {g : Nat} {fp₀ wr₀ fj we : List Addr} {n₀ : Nat} {P F : Nat → Value → Prop} {St₀ : Nat → Heap → Prop} {J : Heap → Prop} {cenv : Env}
    (hh : A.handled = none) (W₀ : ∀ A' : Around, A'.handled = none → Walks prog w A' I fp₀ wr₀ n₀ P St₀) (L : LieN cenv.locals fp₀ wr₀ fj we J)
    (hx : cenv.kindOf x = some .local) (hp : (cenv.scope.kind == .class || (cenv.scope.kind == .module && cenv.locals != cenv.globals)) = false)
    (hco : cenv.scope.isCoroutine = false) {s : Shared} {m : Str → Option Value} (hel : EltN prog w cenv x elt we n₀ P F J (A.depth + 1) (A.units + 4))
    (hg : s.heap.IsGen a g) (hgs : s.gens[g]? = some (.fresh (.compStart (.GeneratorExp elt [⟨.Name x px, iter, [], 0⟩] scope pos) 0 (.ref I) .none cenv)))
    (hst : St₀ 0 s.heap) (hn : s.heap.Ns cenv.locals m) (hl : s.heap.NoLimit) (hj : J s.heap) : AtJ prog w A a g (exN cenv.locals wr₀ we) (fpN cenv.locals fp₀ fj) n₀ F J 0 s :=
  ⟨hg, hl, _, hgs, fun s'' hal => ⟨rfl, seg_startJ (A := A.in1) hh W₀ L hx hp hco hel s'' m ((W₀ A hh).frame _ _ _ hst fun b hb o e => hal b (List.mem_cons_of_mem _ (List.mem_append_left _ hb)) o e)
    (hn.at' fun o e => hal _ (List.mem_cons_self ..) o e) (L.st _ _ hj fun b hb o e => hal b (List.mem_cons_of_mem _ (List.mem_append_right _ hb)) o e)⟩⟩
end
end Mine
namespace Mine
open PySem PySem.W PySem.Calls PyProof.Rows

theorem keep_frame {h h' : Heap} {o : Obj} (hs : Heap.SameBut h.objs.size (h.push o) h') : Keep h h' := fun b ob e =>
  hs.extBut b ob (Nat.ne_of_lt (Heap.lt_size e)) (Heap.get?_push_of_some _ e)

section
variable {prog : Program} {w : World} {A : Around} {E : Value → Shared → Prop} {s : Shared} {K : Frag} {p : Program} {loose : List Str} {mg mb : Str → Option Value} {env : Env}

/-- a generator expression over a list: where it stands when it has been made -/
theorem gen_made {elt iter : Expr} {x : Str} {px : Pos} {scope : Scope} {cl : List (Str × Addr)} {pos : Pos} {b : Addr} {items : Array Value} {bm : Addr} {ob : Obj} {Q : Value → Shared → Prop}
    (hco : scope.isCoroutine = false) (hclos : closureFor scope env = pure cl) (hcell : ∀ y ∈ scope.names, y.2 ≠ .cell) (h0 : scope.names.lookup (".0" : Str) = some NameKind.local) (hkind : scope.kind = .function) (hroom : A.depth < recursionLimit)
    (hs : ∀ v, genFold iter env v = pure v) (hg : env.globals = mainGlobals) (nl : s.heap.NoLimit) (B : BMod s.heap mainGlobals mg bm ob) (hl : s.heap.IsList b items)
    (hit : ∀ (Q : Value → Shared → Prop), Q (.ref b) s → wpAny (model prog w) A (eval iter env) Q E s)
    (h : wpAny (model prog w) A (genexprCode env pos (env.qual ++ "<genexpr>") scope) (fun code s₃ => KeepT (s.heap.push { cls := .type "list_iterator", data := .fields #[.ref b, .int 0 0] }) s₃.heap ∧ s₃.gens = s.gens ∧
      ∀ C a s₄, C = s₃.heap.objs.size → a = s₃.heap.objs.size + 1 → Keep s₃.heap s₄.heap → s₄.heap.objs.size = s₃.heap.objs.size + 2 → (∃ m, s₄.heap.Ns C m) → s₄.heap.IsGen a s₃.gens.size → s₄.drawn = s₃.drawn → s₄.os = s₃.os →
        s₄.gens = s₃.gens.push (.fresh (.compStart (.GeneratorExp elt [⟨.Name x px, iter, [], 0⟩] scope pos) 0 (.ref s.heap.objs.size) .none (genEnv scope cl C code builtinsNs env))) → Q (.ref a) s₄) E
      { s with heap := s.heap.push { cls := .type "list_iterator", data := .fields #[.ref b, .int 0 0] } }) :
    wpAny (model prog w) A (eval (.GeneratorExp elt [⟨.Name x px, iter, [], 0⟩] scope pos) env) Q E s := by
  refine wpAny_GeneratorExp_make hco hclos hcell h0 hkind hroom ?_ hs
  refine hit _ ?_
  refine wpAny_pyIter_list hl ?_
  have k1 : Keep s.heap (s.heap.push { cls := .type "list_iterator", data := .fields #[.ref b, .int 0 0] }) := fun c o e => Heap.get?_push_of_some _ e
  refine ⟨(let ⟨mc, a, r⟩ := nl; ⟨mc, a.keeps k1, r⟩), ?_⟩
  refine wpAny_mono h (fun code s₃ h₃ => ?_) fun _ _ e => e
  obtain ⟨kt, hgn, h₃⟩ := h₃
  have B₃ := kt.bmod (B.keeps k1)
  rw [hg]
  refine wpAny_builtinsFor B₃.ns B₃.name B₃.ne B₃.obj B₃.cls B₃.dict B₃.data ?_
  intro h' hn hsb
  have hz : h'.objs.size = s₃.heap.objs.size + 1 := by rw [hsb.1, Heap.size_push]
  have kf : Keep s₃.heap h' := keep_frame hsb
  have eg : ∀ o : Obj, o.isFreed = false → (h'.push o).get? (s₃.heap.objs.size + 1) = some o := fun o ho => by rw [← hz]; exact Heap.get?_push_size _ ho
  rw [hz]
  refine h₃ _ _ _ rfl rfl (fun c o e => Heap.get?_push_of_some _ (kf c o e)) ?_ ⟨_, hn.push _⟩ ⟨_, _, _, eg _ rfl, rfl, rfl, rfl⟩ rfl rfl rfl
  show (h'.push _).objs.size = _
  rw [Heap.size_push, hz]
end
end Mine
namespace Mine
open PySem PySem.W PySem.Calls PyProof.Rows
section
variable {M : Model} {A : Around} {E : Value → Shared → Prop} {s : Shared} {env : Env}
/-- the code of a generator expression, wherever it may lie already -/
theorem code_any {pos : Pos} {c P : Addr} {qual : Str} {scope : Scope} {Q : Value → Shared → Prop} (hc : env.code = .ref c) (T : TabC s.heap c P)
    (h : ∀ code h' tk, (∀ b o, b ≠ P → s.heap.get? b = some o → h'.get? b = some o) → TabC h' c P → Q code { s with heap := h', toks := tk }) :
    wpAny M A (genexprCode env pos qual scope) Q E s := by
  obtain ⟨a, ps, e, t⟩ := T
  cases hf : codeAmong pos ps.toList with
  | some cv => exact wpAny_genexprCode_hit hc (a.code e t) hf (h cv s.heap s.toks (fun _ _ _ e => e) ⟨a, ps, e, t⟩)
  | none =>
    refine wpAny_genexprCodeX hc (a.code e t) (a.tab e) hf (fun c' h' tk hx l1 l2 hcode hrec htab htab' => ?_)
    have hP : h'.get? P = some (tabObj (ps ++ #[rawInt pos.line, rawInt pos.col, .ref c'])) := htab.2
    have tr : TriplesOk (ps ++ #[rawInt pos.line, rawInt pos.col, .ref c']).toList := by
      rw [Array.toList_append]; exact TriplesOk_snoc _ _ _ _ t
    exact h _ h' tk (fun b o hb eb => hx b o hb eb) ⟨CodeHd.of hcode htab, _, hP, tr⟩
end

section
variable {prog : Program} {w : World} {A : Around} {E : Value → Shared → Prop} {s : Shared} {K : Frag} {p : Program} {loose : List Str} {mg mb : Str → Option Value} {env : Env}

theorem more_push {a b : Array GenState} {x : GenState} (hx : x.bare = true) (h : FromG a.size (a.push x) b) : MoreGens a b := by
  have h1 := h.size
  rw [Array.size_push] at h1
  refine ⟨by (first | lia | omega), fun k hk => ?_, fun k y hk e => ?_⟩
  · rw [h.old k hk, Array.getElem?_push_lt hk, Array.getElem?_eq_getElem hk]
  · refine h.bare (fun k y hk e => ?_) k y hk e
    by_cases q : k = a.size
    · subst q; rw [Array.getElem?_push_size] at e; cases e; exact hx
    · rw [Array.getElem?_eq_none (by rw [Array.size_push]; (first | lia | omega))] at e; cases e

theorem range_any (f : Int → Bool) (cl : List Int) : (List.range cl.length).any (fun i => f (cl.getD i 0)) = cl.any f := by
  rw [Bool.eq_iff_iff, List.any_eq_true, List.any_eq_true]
  constructor
  · rintro ⟨i, hi, h⟩
    have hlt := List.mem_range.mp hi
    refine ⟨cl[i], List.getElem_mem hlt, ?_⟩
    rw [List.getD_eq_getElem?_getD, List.getElem?_eq_getElem hlt] at h; exact h
  · rintro ⟨l, hl, h⟩
    obtain ⟨i, hi, rfl⟩ := List.getElem_of_mem hl
    refine ⟨i, List.mem_range.mpr hi, ?_⟩
    rw [List.getD_eq_getElem?_getD, List.getElem?_eq_getElem hi]; exact h
theorem range_all {α : Type} (f : α → Bool) (d : α) (cl : List α) : (List.range cl.length).all (fun i => f (cl.getD i d)) = cl.all f := by
  rw [Bool.eq_iff_iff, List.all_eq_true, List.all_eq_true]
  constructor
  · intro h l hl
    obtain ⟨i, hi, rfl⟩ := List.getElem_of_mem hl
    have := h i (List.mem_range.mpr hi)
    rw [List.getD_eq_getElem?_getD, List.getElem?_eq_getElem hi] at this; exact this
  · intro h i hi
    have hlt := List.mem_range.mp hi
    have := h cl[i] (List.getElem_mem hlt)
    rw [List.getD_eq_getElem?_getD, List.getElem?_eq_getElem hlt]; exact this

theorem any_ok {xl xc tn : Str} {q₁ q₂ q₃ q₄ q₅ q₆ q₇ pos : Pos} {sc : Scope} {c' P' ct dt b bm : Addr} {ob : Obj} {m : Str → Option Value} {its tv : List Value} {cl ts : List Int} {Q : Value → Shared → Prop}
    (hg : env.globals = mainGlobals) (hb : env.builtins = builtinsNs) (hk : env.scope.kind = .function) (hc : env.code = .ref c') (kany : env.kindOf "any" = some .globalImplicit) (kxc : env.kindOf xc = some .local) (dxc : (xc == ("__debug__" : Str)) = false)
    (hco : sc.isCoroutine = false) (hclos : closureFor sc env = pure [(tn, ct)]) (hcell : ∀ y ∈ sc.names, y.2 ≠ .cell) (h0 : sc.names.lookup (".0" : Str) = some NameKind.local) (hkind : sc.kind = .function)
    (lx : sc.names.lookup xl = some .local) (lt : sc.names.lookup tn = some .free) (dxl : (xl == ("__debug__" : Str)) = false) (dtn : (tn == ("__debug__" : Str)) = false) (dtn' : (tn == ("__classdict__" : Str)) = false)
    (hbm : behindInMarks .In (.Name tn q₃) = false)
    (G : Gd K p loose mg mb s.heap) (hany : nsIn K mainGlobals "any" = some none) (B : BMod s.heap mainGlobals mg bm ob) (T : TabC s.heap c' P')
    (hn : s.heap.Ns env.locals m) (hm : m xc = some (.ref b)) (hl : s.heap.IsList b its.toArray) (hi : IntsAre its cl) (hct : s.heap.IsCell ct (some (.ref dt))) (hdt : s.heap.IsList dt tv.toArray) (htv : IntsAre tv ts)
    (hh : A.handled = none) (hroom : A.depth < recursionLimit)
    (ret : ∀ s', Calm [P'] s s' → TabC s'.heap c' P' → Q (.bool (cl.any fun l => ts.any (· == l))) s') :
    wpAny (model prog w) A (eval (.Call (.Name "any" q₁) [.GeneratorExp (.Compare (.Name xl q₂) [.In] [.Name tn q₃] q₄) [⟨.Name xl q₅, .Name xc q₆, [], 0⟩] sc pos] [] q₇) env) Q E s := by
  refine Call_ ?_ rfl
  refine e_boot G (v := .builtin "any") (by boot_fast) hany (by decide) ?_ hg hb hk kany (by decide)
  refine callWith_builtin1 ?_ rfl rfl
  refine args_cons ?_ rfl
  refine gen_made hco hclos hcell h0 hkind hroom (fun _ => rfl) hg G.t.nolimit B hl (fun Q hQ => e_local hn hm hQ hk kxc dxc) ?_
  have k1 : Keep s.heap (s.heap.push { cls := .type "list_iterator", data := .fields #[.ref b, .int 0 0] }) := fun c o e => Heap.get?_push_of_some _ e
  have eI : (s.heap.push { cls := .type "list_iterator", data := .fields #[.ref b, .int 0 0] }).get? s.heap.objs.size = some { cls := .type "list_iterator", data := .fields #[.ref b, .int 0 0] } := Heap.get?_push_size _ rfl
  have lP : P' < s.heap.objs.size := T.lt
  have lc : c' < s.heap.objs.size := hdLt T.1
  have T₁ := T.keep k1
  refine code_any hc T₁ (fun code h' tk hx T' => ?_)
  have kt : KeepT (s.heap.push { cls := .type "list_iterator", data := .fields #[.ref b, .int 0 0] }) h' := let ⟨_, _, e, _⟩ := T₁; KeepT.but e hx
  refine ⟨kt, rfl, fun C a s₄ eC ea k₄ hz hN hgen hdr hos hgens => ?_⟩
  refine args_nil ?_
  obtain ⟨mN, hN⟩ := hN
  have lb : b < s.heap.objs.size := list_lt hl
  have lct : ct < s.heap.objs.size := let ⟨_, e, _⟩ := hct; Heap.lt_size e
  have ldt : dt < s.heap.objs.size := list_lt hdt
  have lst : cStatics < s.heap.objs.size := let ⟨_, a, _⟩ := G.t.nolimit; a.lt
  have up : ∀ {d : Addr} {o : Obj}, d ≠ P' → s.heap.get? d = some o → s₄.heap.get? d = some o := fun hd e => k₄ _ _ (hx _ _ hd (k1 _ _ e))
  have kts : KeepT s.heap s₄.heap := (KeepT.of k1).trans (kt.trans (KeepT.of k₄))
  have eI₄ : s₄.heap.get? s.heap.objs.size = some { cls := .type "list_iterator", data := .fields #[.ref b, .int 0 0] } := k₄ _ _ (hx _ _ (Nat.ne_of_gt lP) eI)
  have lI : s.heap.objs.size < C := by rw [eC]; exact Heap.lt_size (hx _ _ (Nat.ne_of_gt lP) eI)
  have T₄ : TabC s₄.heap c' P' := T'.keep k₄
  have hnl : s₄.heap.NoLimit := let ⟨mc, a, r⟩ := G.t.nolimit; ⟨mc, kts.ns a, r⟩
  have exC : ∀ {d : Addr}, d < s.heap.objs.size → d ∉ exN C [s.heap.objs.size] [] := fun {d} hd => by
    simp only [List.cons_append, List.nil_append, List.mem_cons, List.not_mem_nil, or_false, not_or]
    exact ⟨Nat.ne_of_lt (Nat.lt_trans hd lI), Nat.ne_of_lt hd⟩
  have LN : LieN C [s.heap.objs.size, b] [s.heap.objs.size] [cStatics, ct, dt] [] (fun h => h.IsCell ct (some (.ref dt)) ∧ h.IsList dt tv.toArray) := by
    refine ⟨?_, ?_, ?_, (fun _ h => nomatch h), (fun _ h => nomatch h), ?_⟩
    · simp only [List.mem_cons, List.not_mem_nil, or_false, not_or]
      exact ⟨Nat.ne_of_gt lI, Nat.ne_of_gt (Nat.lt_trans lb lI)⟩
    · simp only [List.mem_cons, List.not_mem_nil, or_false, not_or]
      exact ⟨Nat.ne_of_gt (Nat.lt_trans lst lI), Nat.ne_of_gt (Nat.lt_trans lct lI), Nat.ne_of_gt (Nat.lt_trans ldt lI)⟩
    · intro d hd
      simp only [List.mem_cons, List.not_mem_nil, or_false] at hd ⊢
      rcases hd with q | q | q <;> rw [q]
      · exact Nat.ne_of_lt lst
      · exact Nat.ne_of_lt lct
      · exact Nat.ne_of_lt ldt
    · rintro h₁ h₂ ⟨⟨o, e, hd⟩, hl'⟩ hk'
      exact ⟨⟨o, hk' ct (by simp) o e, hd⟩, hl'.at fun o e => hk' dt (by simp) o e⟩
  have hel : EltN prog w (genEnv sc [(tn, ct)] C code builtinsNs env) xl (.Compare (.Name xl q₂) [.In] [.Name tn q₃] q₄) [] its.toArray.size (fun i v => its.toArray[i]? = some v) (fun i y => y = .bool (ts.any (· == cl.getD i 0)))
      (fun h => h.IsCell ct (some (.ref dt)) ∧ h.IsList dt tv.toArray) (A.in1.depth + 1) (A.in1.units + 4) := by
    rintro A' E' i v s₂ m₂ hA _ _ hi' hv hn₂ hm₂ ⟨j1, j2⟩
    have hv' : its[i]? = some v := by simpa using hv
    have hlt : i < cl.length := by rw [← hi.length]; exact (List.getElem?_eq_some_iff.mp hv').1
    obtain ⟨tt, ht⟩ := hi.get i cl[i] (by simp [hlt])
    rw [ht] at hv'; cases hv'
    refine wpAny_Compare1 ?_ hbm
    refine e_local hn₂ hm₂ ?_ hkind lx dxl
    refine e_free (c := ct) (by simp [genEnv]) j1 ?_ hkind lt dtn dtn'
    refine in_list_ints j2 htv ?_
    refine ⟨?_, Calm.refl _ _, j1, j2⟩
    show Value.bool _ = Value.bool _
    rw [List.getD_eq_getElem?_getD, List.getElem?_eq_getElem hlt]; rfl
  have hsz : its.toArray.size = cl.length := by simp [hi.length]
  have hat := atJ_fresh (A := A.in1) (a := a) (g := s.gens.size) (px := q₅) (iter := .Name xc q₆) (scope := sc) (pos := pos) (s := s₄) (m := mN) (elt := .Compare (.Name xl q₂) [.In] [.Name tn q₃] q₄)
    (St₀ := fun i h => h.IsListIter s.heap.objs.size b i ∧ h.IsList b its.toArray) (cenv := genEnv sc [(tn, ct)] C code builtinsNs env) hh (fun A' hA => Walks.list hA s.heap.objs.size b (Nat.ne_of_lt lb) its.toArray) LN lx
    (by show (sc.kind == .class || (sc.kind == .module && _)) = false; rw [hkind]; rfl) hco hel hgen (by rw [hgens]; exact Array.getElem?_push_size) ⟨⟨_, eI₄, rfl, rfl⟩, kts.list hl⟩ hN hnl ⟨kts.cell hct, kts.list hdt⟩
  refine call_anyJ (A := A) (a := a) (g := s.gens.size) hh ?_ ?_ hroom (exC lst) (fun h₁ h₂ hJ hk => ⟨let ⟨o, e, hd⟩ := hJ.1; ⟨o, hk _ _ e, hd⟩, stays_list hk hJ.2⟩) (fun i => ts.any (· == cl.getD i 0)) ?_ hat (fun s' mv => ?_)
  · simp only [List.cons_append, List.nil_append, List.mem_cons, List.not_mem_nil, or_false, not_or]
    have la : C < a := by rw [ea, eC]; exact Nat.lt_succ_self _
    exact ⟨Nat.ne_of_gt la, Nat.ne_of_gt (Nat.lt_trans lI la), Nat.ne_of_gt (Nat.lt_trans (Nat.lt_trans lb lI) la), Nat.ne_of_gt (Nat.lt_trans (Nat.lt_trans lst lI) la), Nat.ne_of_gt (Nat.lt_trans (Nat.lt_trans lct lI) la), Nat.ne_of_gt (Nat.lt_trans (Nat.lt_trans ldt lI) la)⟩
  · intro d hd
    simp only [List.cons_append, List.nil_append, List.mem_cons, List.not_mem_nil, or_false] at hd ⊢
    rcases hd with q | q
    · exact .inl q
    · exact .inr (.inl q)
  · intro i v s₅ Q₅ E₅ hP hQ
    rw [hP]
    exact wpAny_truthy_bool hQ
  · rw [hsz, range_any (fun l => ts.any (· == l)) cl]
    have lP' : P' < s.heap.objs.size := lP
    refine ret s' ⟨fun d o hd e => ?_, ?_, ?_, ?_⟩ ?_
    · exact mv.heap d o (exC (Heap.lt_size e)) (up (fun q => hd (by simp [q])) e)
    · have hG := mv.gens
      rw [hgens] at hG
      exact more_push rfl hG
    · rw [mv.drawn, hdr]
    · rw [mv.os, hos]
    · exact T₄.move fun b o hb e => mv.heap b o (exC (by rcases hb with q | q <;> rw [q] <;> first | exact lc | exact lP)) e
end
end Mine
namespace Mine
open PySem PySem.W PySem.Calls PyProof.Rows
section
variable {prog : Program} {w : World} {A : Around} {E : Value → Shared → Prop} {s : Shared} {K : Frag} {p : Program} {loose : List Str} {mg mb : Str → Option Value} {env : Env}

/-- «all(any(l in ts for l in c) for c in cs)» -/
theorem nest_ok {xl xc tn xs : Str} {q₁ q₂ q₃ q₄ q₅ q₆ q₇ pos₂ r₁ r₂ r₃ r₄ pos₁ : Pos} {sc₁ sc₂ : Scope} {Av : Addr → Prop} {c₀ P₀ ct dt a bm : Addr} {ob : Obj} {vs tv : List Value} {css : List (List Int)} {ts : List Int} {Q : Value → Shared → Prop}
    (hg : env.globals = mainGlobals) (hc : env.code = .ref c₀) (hall : ∀ Q : Value → Shared → Prop, Q (.builtin "all") s → wpAny (model prog w) A (eval (.Name "all" r₁) env) Q E s)
    (hxs : ∀ Q : Value → Shared → Prop, Q (.ref a) s → wpAny (model prog w) A (eval (.Name xs r₃) env) Q E s)
    (hco₁ : sc₁.isCoroutine = false) (hclos₁ : closureFor sc₁ env = pure [(tn, ct)]) (hcell₁ : ∀ y ∈ sc₁.names, y.2 ≠ .cell) (h0₁ : sc₁.names.lookup (".0" : Str) = some NameKind.local) (hkind₁ : sc₁.kind = .function)
    (lc : sc₁.names.lookup xc = some .local) (lany : sc₁.names.lookup ("any" : Str) = some .globalImplicit) (dxc : (xc == ("__debug__" : Str)) = false)
    (hco₂ : sc₂.isCoroutine = false) (hclos₂ : ∀ C code, closureFor sc₂ (genEnv sc₁ [(tn, ct)] C code builtinsNs env) = pure [(tn, ct)]) (hcell₂ : ∀ y ∈ sc₂.names, y.2 ≠ .cell) (h0₂ : sc₂.names.lookup (".0" : Str) = some NameKind.local) (hkind₂ : sc₂.kind = .function)
    (lx : sc₂.names.lookup xl = some .local) (lt : sc₂.names.lookup tn = some .free) (dxl : (xl == ("__debug__" : Str)) = false) (dtn : (tn == ("__debug__" : Str)) = false) (dtn' : (tn == ("__classdict__" : Str)) = false)
    (hbm : behindInMarks .In (.Name tn q₃) = false) (hK : noTabs K = true)
    (G : Gd K p loose mg mb s.heap) (hany : nsIn K mainGlobals "any" = some none) (B : BMod s.heap mainGlobals mg bm ob) (hzs : ∀ x, @LE.le Nat _ s.heap.objs.size x → Av x) (H : HInv Av pos₁ c₀ P₀ s.heap)
    (hl : s.heap.IsList a vs.toArray) (hp : Paired (IsI s.heap) vs css) (hct : s.heap.IsCell ct (some (.ref dt))) (hdt : s.heap.IsList dt tv.toArray) (htv : IntsAre tv ts)
    (hh : A.handled = none) (hroom : A.depth + 1 < recursionLimit)
    (ret : ∀ s', KeepT s.heap s'.heap → (∀ b o, ¬ Av b → b ≠ P₀ → s.heap.get? b = some o → s'.heap.get? b = some o) → MoreGens s.gens s'.gens → s'.drawn = s.drawn → s'.os = s.os → HInv Av pos₁ c₀ P₀ s'.heap → Q (.bool (css.all fun c => c.any fun l => ts.any (· == l))) s') :
    wpAny (model prog w) A (eval (.Call (.Name "all" r₁) [.GeneratorExp (.Call (.Name "any" q₁) [.GeneratorExp (.Compare (.Name xl q₂) [.In] [.Name tn q₃] q₄) [⟨.Name xl q₅, .Name xc q₆, [], 0⟩] sc₂ pos₂] [] q₇) [⟨.Name xc r₂, .Name xs r₃, [], 0⟩] sc₁ pos₁] [] r₄) env) Q E s := by
  refine Call_ ?_ rfl
  refine hall _ ?_
  refine callWith_builtin1 ?_ rfl rfl
  refine args_cons ?_ rfl
  refine gen_made hco₁ hclos₁ hcell₁ h0₁ hkind₁ (by (first | lia | omega)) (fun _ => rfl) hg G.t.nolimit B hl hxs ?_
  have k1 : Keep s.heap (s.heap.push { cls := .type "list_iterator", data := .fields #[.ref a, .int 0 0] }) := fun c o e => Heap.get?_push_of_some _ e
  have eI : (s.heap.push { cls := .type "list_iterator", data := .fields #[.ref a, .int 0 0] }).get? s.heap.objs.size = some { cls := .type "list_iterator", data := .fields #[.ref a, .int 0 0] } := Heap.get?_push_size _ rfl
  refine code_get hc (fun x hx => hzs x (Nat.le_trans (by rw [Heap.size_push]; exact Nat.le_succ _) hx)) (H.keep k1) (fun c' P' h' tk kt kx H' T' hne hfnd => ?_)
  refine ⟨kt, rfl, fun C a' s₄ eC ea k₄ hz hN hgen hdr hos hgens => ?_⟩
  refine args_nil ?_
  obtain ⟨mN, hN⟩ := hN
  obtain ⟨I, hI⟩ : ∃ I, I = s.heap.objs.size := ⟨_, rfl⟩
  have eI' : h'.get? I = some { cls := .type "list_iterator", data := .fields #[.ref a, .int 0 0] } := by
    rw [hI]; exact kt _ _ eI (tab_cls rfl (by simp))
  have kts : KeepT s.heap h' := (KeepT.of k1).trans kt
  obtain ⟨hdC, psP, eP, tP⟩ := id T'
  obtain ⟨oc, eCd, eCc, _, _⟩ := hdOpen hdC
  have nPI : P' ≠ I := fun q => by rw [q, eI'] at eP; cases eP
  have ncI : c' ≠ I := fun q => by rw [q, eI'] at eCd; cases eCd; exact absurd eCc (by simp)
  have lI : I < C := by rw [eC]; exact Heap.lt_size eI'
  have la : a < I := by rw [hI]; exact list_lt hl
  have nPa : P' ≠ a := fun q => by
    obtain ⟨o, e, hcl, _⟩ := kts.list hl
    rw [q, e] at eP; cases eP; cases hcl
  have lst : cStatics < I := by rw [hI]; exact (let ⟨_, z, _⟩ := G.t.nolimit; z.lt)
  have nst : cStatics ≠ P' := fun q => by
    obtain ⟨_, ⟨o, es, ep, e, hd, _⟩, _⟩ := G.t.nolimit
    have := kts _ _ e (tab_data fun ps q => by rw [hd] at q; cases q)
    rw [q, eP] at this; cases this; cases hd
  let J : Heap → Prop := fun h => (∀ b o, h'.get? b = some o → b ≠ I → b ≠ P' → h.get? b = some o) ∧ TabC h c' P'
  let fj : List Addr := (List.range h'.objs.size).filter (fun b => b != I)
  have inFj : ∀ {b : Addr}, b < h'.objs.size → b ≠ I → b ∈ fj := fun hb hn => List.mem_filter.mpr ⟨List.mem_range.mpr hb, by simpa using hn⟩
  have ofFj : ∀ {b : Addr}, b ∈ fj → b < h'.objs.size ∧ b ≠ I := fun hb => ⟨List.mem_range.mp (List.mem_filter.mp hb).1, by simpa using (List.mem_filter.mp hb).2⟩
  have hJk : ∀ h h₂ : Heap, J h → Keep h h₂ → J h₂ := fun h h₂ hJ hk => ⟨fun b o e n1 n2 => hk _ _ (hJ.1 b o e n1 n2), hJ.2.keep hk⟩
  have KJ : ∀ h : Heap, J h → KeepT s.heap h := fun h hJ b o e hn => by
    have e' := kts b o e hn
    exact hJ.1 b o e' (Nat.ne_of_lt (by rw [hI]; exact Heap.lt_size e)) (fun q => by rw [q, eP] at e'; cases e'; exact hn _ rfl)
  have LN : LieN C [I, a] [I] fj [P'] J := by
    refine ⟨?_, ?_, ?_, ?_, ?_, ?_⟩
    · simp only [List.mem_cons, List.not_mem_nil, or_false, not_or]
      exact ⟨Nat.ne_of_gt lI, Nat.ne_of_gt (Nat.lt_trans la lI)⟩
    · intro q
      have := (ofFj q).1
      rw [eC] at this; exact Nat.lt_irrefl _ this
    · intro b hb q
      exact (ofFj hb).2 (List.mem_singleton.mp q)
    · intro b hb
      rw [List.mem_singleton.mp hb]; exact inFj (Heap.lt_size eP) nPI
    · intro b hb
      rw [List.mem_singleton.mp hb]
      simp only [List.mem_cons, List.not_mem_nil, or_false, not_or]
      exact ⟨nPI, nPa⟩
    · rintro h₁ h₂ ⟨j1, j2⟩ hk
      exact ⟨fun b o e n1 n2 => hk b (inFj (Heap.lt_size e) n1) o (j1 b o e n1 n2), j2.move fun b o hb e => hk b (by rcases hb with q | q <;> rw [q] <;> first | exact inFj (Heap.lt_size eCd) ncI | exact inFj (Heap.lt_size eP) nPI) o e⟩
  have hlen : vs.toArray.size = css.length := by simp [paired_len hp]
  have hel : EltN prog w (genEnv sc₁ [(tn, ct)] C (.ref c') builtinsNs env) xc (.Call (.Name "any" q₁) [.GeneratorExp (.Compare (.Name xl q₂) [.In] [.Name tn q₃] q₄) [⟨.Name xl q₅, .Name xc q₆, [], 0⟩] sc₂ pos₂] [] q₇) [P'] vs.toArray.size
      (fun i v => vs.toArray[i]? = some v) (fun i y => y = .bool ((css.getD i []).any fun l => ts.any (· == l))) J (A.in1.depth + 1) (A.in1.units + 4) := by
    intro A' E' i v s₂ m₂ hA hdep _ hi' hv hn₂ hm₂ hJ
    obtain ⟨c, hcs, b, its, rfl, hbl, hbi⟩ := paired_at hp (show vs[i]? = some v by simpa using hv)
    have kk := KJ _ hJ
    refine any_ok (env := genEnv sc₁ [(tn, ct)] C (.ref c') builtinsNs env) hg rfl hkind₁ rfl lany lc dxc hco₂ (hclos₂ C _) hcell₂ h0₂ hkind₂ lx lt dxl dtn dtn' hbm (G.keepT kk hK) hany (kk.bmod B) hJ.2 hn₂ hm₂ (kk.list hbl) hbi (kk.cell hct) (kk.list hdt) htv hA (Nat.lt_of_le_of_lt hdep hroom) (fun s₃ cm T₃ => ?_)
    refine ⟨?_, cm, fun d o e n1 n2 => cm.heap d o (by simpa using n2) (hJ.1 d o e n1 n2), T₃⟩
    show Value.bool _ = Value.bool _
    rw [List.getD_eq_getElem?_getD, hcs]; rfl
  have J₄ : J s₄.heap := ⟨fun b o e _ _ => k₄ _ _ e, T'.keep k₄⟩
  have hat := atJ_fresh (A := A.in1) (a := a') (g := s.gens.size) (px := r₂) (iter := .Name xs r₃) (scope := sc₁) (pos := pos₁) (s := s₄) (m := mN)
    (St₀ := fun i h => h.IsListIter I a i ∧ h.IsList a vs.toArray) (cenv := genEnv sc₁ [(tn, ct)] C (.ref c') builtinsNs env) hh (fun A' hA => Walks.list hA I a (Nat.ne_of_lt la) vs.toArray) LN lc
    (by show (sc₁.kind == .class || (sc₁.kind == .module && _)) = false; rw [hkind₁]; rfl) hco₁ hel hgen (by rw [hgens, hI]; exact Array.getElem?_push_size) ⟨⟨_, k₄ _ _ eI', rfl, rfl⟩, (KJ _ J₄).list hl⟩ hN (let ⟨mc, z, r⟩ := G.t.nolimit; ⟨mc, (KJ _ J₄).ns z, r⟩) J₄
  have la' : C < a' := by rw [ea, eC]; exact Nat.lt_succ_self _
  refine call_allJ (A := A) (a := a') (g := s.gens.size) hh ?_ ?_ (by (first | lia | omega)) ?_ hJk (fun i => (css.getD i []).any fun l => ts.any (· == l)) ?_ hat (fun s' mv hJ => ?_)
  · simp only [List.cons_append, List.nil_append, List.mem_cons, not_or]
    refine ⟨Nat.ne_of_gt la', Nat.ne_of_gt (Nat.lt_trans lI la'), Nat.ne_of_gt (Nat.lt_trans (Nat.lt_trans la lI) la'), fun q => ?_⟩
    have := (ofFj q).1
    rw [← eC] at this; exact Nat.lt_irrefl _ (Nat.lt_trans this la')
  · intro d hd
    simp only [List.cons_append, List.nil_append, List.mem_cons, List.not_mem_nil, or_false] at hd ⊢
    rcases hd with q | q | q
    · exact .inl q
    · exact .inr (.inl q)
    · exact .inr (.inr (.inr (q ▸ inFj (Heap.lt_size eP) nPI)))
  · simp only [List.cons_append, List.nil_append, List.mem_cons, List.not_mem_nil, or_false, not_or]
    exact ⟨Nat.ne_of_lt (Nat.lt_trans lst lI), Nat.ne_of_lt lst, nst⟩
  · intro i v s₅ Q₅ E₅ hP hQ
    rw [hP]
    exact wpAny_truthy_bool hQ
  · rw [hlen, range_all (fun c : List Int => c.any fun l => ts.any (· == l)) [] css]
    obtain ⟨ps, ePs, hf⟩ := hfnd
    obtain ⟨hd0, ps₂, eP2, t2, _⟩ := H'
    obtain ⟨o₀, e0, r0, _, k0⟩ := hdOpen hd0
    rw [ePs] at eP2; cases eP2
    have nPI0 : P₀ ≠ I := fun q => by rw [q, eI'] at ePs; cases ePs
    have ncI0 : c₀ ≠ I := fun q => by rw [q, eI'] at e0; cases e0; exact absurd r0 (by simp)
    have ncP0 : c₀ ≠ P' := fun q => by rw [q, eP] at e0; cases e0; cases r0
    refine ret s' (KJ _ hJ) (fun b o hb hP e => hJ.1 b o (kx b o hP (k1 _ _ e)) (fun q => hb (hzs _ (by rw [q, hI]; exact Nat.le_refl _))) (fun q => hb (q ▸ hne.2.1))) ?_ ?_ ?_ ⟨k0 _ (hJ.1 _ _ e0 ncI0 ncP0), ps, hJ.1 _ _ ePs nPI0 (Ne.symm hne.1), t2, .inr ⟨c', P', hf, hne, hJ.2⟩⟩
    · have hG := mv.gens
      rw [hgens] at hG
      exact more_push rfl hG
    · rw [mv.drawn, hdr]
    · rw [mv.os, hos]
end
end Mine
namespace Mine
open PySem PySem.W PySem.Calls PyProof.Rows

abbrev llData (css : List (List Int)) : PyData := .list (css.map fun c => .list (c.map PyData.int))
theorem reads_all {h : Heap} {vs : List Value} {css : List (List Int)} (hp : Paired (IsI h) vs css) : ∃ as, ReadsAll h vs (css.map fun c => .list (c.map PyData.int)) as := by
  induction hp with
  | nil => exact ⟨[], .nil⟩
  | cons r t ih =>
    obtain ⟨b, its, rfl, hl, hi⟩ := r
    obtain ⟨as, ih⟩ := ih
    exact ⟨_, .cons (reads_newData hl (ke_carried hi)) ih⟩
theorem reads_ll {h : Heap} {a : Addr} {css : List (List Int)} (x : IsLL h a css) : ∃ as, Reads h (.ref a) (llData css) as := by
  obtain ⟨vs, ⟨o, e, hc, n, hd⟩, hp⟩ := x
  obtain ⟨as, r⟩ := reads_all hp
  exact ⟨_, .list e hc hd (by simpa using r)⟩
theorem eqv_ints : ∀ c : List Int, PyData.eqvAll (c.map PyData.int) (c.map PyData.int) = true := fun c => by rw [ked_eqvAll]; simp
theorem eqv_lls : ∀ css : List (List Int), PyData.eqvAll (css.map fun c => PyData.list (c.map PyData.int)) (css.map fun c => PyData.list (c.map PyData.int)) = true
  | [] => by simp [PyData.eqvAll]
  | c :: r => by simp only [List.map_cons, PyData.eqvAll, PyData.eqv, eqv_ints, eqv_lls r, Bool.and_self]
theorem eqv_ll (css : List (List Int)) : PyData.eqv (llData css) (llData css) = true := by simp only [PyData.eqv, eqv_lls]
theorem canLay_lls : ∀ css : List (List Int), PyData.canLayAll0 (css.map fun c => PyData.list (c.map PyData.int)) = true
  | [] => by simp [PyData.canLayAll0]
  | c :: r => by simp only [List.map_cons, PyData.canLayAll0, PyData.canLay0, ke_canLayAll0, canLay_lls r, Bool.and_self]
theorem depth_lls : ∀ css : List (List Int), PyData.depthAll (css.map fun c => PyData.list (c.map PyData.int)) ≤ 1
  | [] => by simp [PyData.depthAll]
  | c :: r => by
    have := depth_lls r
    simp only [List.map_cons, PyData.depthAll, PyData.depth, ke_depthAll]
    (first | lia | omega)
theorem shaped_ll (css : List (List Int)) : SeqAt.shaped (llData css) = true := by
  have := depth_lls css
  unfold SeqAt.shaped
  rw [Bool.and_eq_true]
  refine ⟨by simp only [PyData.canLay0, canLay_lls], ?_⟩
  refine decide_eq_true ?_
  simp only [PyData.depth]
  (first | lia | omega)
section
variable {prog : Program} {w : World} {A : Around} {E : Value → Shared → Prop} {s : Shared}
/-- two lists of lists of ints that hold the same -/
theorem r_ne_ll {a b : Addr} {css : List (List Int)} {Q : Value → Shared → Prop} (ha : IsLL s.heap a css) (hb : IsLL s.heap b css) (hu : A.units + 64 < cLine) (h : Q (.bool false) s) : wpAny (model prog w) A (compareOp .NotEq (.ref a) (.ref b)) Q E s := by
  obtain ⟨as, ra⟩ := reads_ll ha
  obtain ⟨bs, rb⟩ := reads_ll hb
  refine ne_dataH ra rb (shaped_ll css) (shaped_ll css) hu ?_
  rw [eqv_ll]; exact h
end

/-- all is kept but tables, and below z but the table P -/
structure RelT (z : Nat) (P : Addr) (s s' : Shared) : Prop where
  kt : KeepT s.heap s'.heap
  kz : ∀ b o, @LT.lt Nat _ b z → b ≠ P → s.heap.get? b = some o → s'.heap.get? b = some o
  gens : MoreGens s.gens s'.gens
  drawn : s'.drawn = s.drawn
  os : s'.os = s.os
theorem RelT.of {z : Nat} {P : Addr} {s s' : Shared} (sm : Same s s') (k : Keep s.heap s'.heap) : RelT z P s s' := ⟨KeepT.of k, fun b o _ _ e => k b o e, by rw [sm.gens]; exact .refl _, sm.drawn, sm.os⟩
theorem RelT.trans {z : Nat} {P : Addr} {a b c : Shared} (x : RelT z P a b) (y : RelT z P b c) : RelT z P a c :=
  ⟨x.kt.trans y.kt, fun d o h1 h2 e => y.kz d o h1 h2 (x.kz d o h1 h2 e), x.gens.trans y.gens, y.drawn.trans x.drawn, y.os.trans x.os⟩

section
variable {prog : Program} {w : World} {A : Around} {E : Value → Shared → Prop} {env : Env} {s s₂ : Shared} {it : Value} {n : Nat} {P : Nat → Value → Prop} {elt : Expr} {x : Str} {ifs : List Expr} {scope : Scope} {cl : List (Str × Addr)} {Fin : Addr → Addr → List Value → Shared → Shared → Prop}

abbrev AvC (z I C D : Nat) : Addr → Prop := fun b => @LE.le Nat _ z b ∧ b ∉ [I, C, D]
end
end Mine
namespace Mine
open PySem PySem.W PySem.Calls PyProof.Rows
/-- one object is turned that is neither a table, a code nor a list -/
structure Turn1 (x : Addr) (h h' : Heap) : Prop where
  obj : ∃ o, h.get? x = some o ∧ (∀ fs, o.data ≠ .fields fs) ∧ ∀ xs n, o.data ≠ .seq xs n
  mv : ∀ b o, b ≠ x → h.get? b = some o → h'.get? b = some o
theorem Turn1.ne {x b : Addr} {h h' : Heap} {o : Obj} {fs : Array Value} (T : Turn1 x h h') (e : h.get? b = some o) (hd : o.data = .fields fs) : b ≠ x := fun q => by
  obtain ⟨o', e', h1, _⟩ := T.obj
  rw [q, e'] at e; cases e; exact h1 _ hd
theorem Turn1.nel {x b : Addr} {h h' : Heap} {its : Array Value} (T : Turn1 x h h') (hl : h.IsList b its) : b ≠ x := fun q => by
  obtain ⟨o', e', _, h2⟩ := T.obj
  obtain ⟨o, e, _, n, hd⟩ := hl
  rw [q, e'] at e; cases e; exact h2 _ _ hd
theorem Turn1.list {x b : Addr} {h h' : Heap} {its : Array Value} (T : Turn1 x h h') (hl : h.IsList b its) : h'.IsList b its := hl.at fun o e => T.mv _ o (T.nel hl) e
theorem Turn1.ll {x a : Addr} {h h' : Heap} {css : List (List Int)} (T : Turn1 x h h') (y : IsLL h a css) : IsLL h' a css :=
  let ⟨vs, hl, hp⟩ := y; ⟨vs, T.list hl, hp.mono fun _ _ ⟨b, its, e, hl, hi⟩ => ⟨b, its, e, T.list hl, hi⟩⟩
theorem Turn1.hinv {Av : Addr → Prop} {pos : Pos} {c P x : Addr} {h h' : Heap} (T : Turn1 x h h') (H : HInv Av pos c P h) : HInv Av pos c P h' := by
  have key : ∀ {c P : Addr}, CodeHd h c P → CodeHd h' c P := fun x => by
    obtain ⟨o, e, _, ⟨fs, hd⟩, k'⟩ := hdOpen x
    exact k' _ (T.mv _ _ (T.ne e hd) e)
  obtain ⟨a, ps, e, t, alt⟩ := H
  refine ⟨key a, ps, T.mv _ _ (T.ne e rfl) e, t, alt.imp id ?_⟩
  rintro ⟨c', P', f, n, a', ps', e', t'⟩
  exact ⟨c', P', f, n, key a', ps', T.mv _ _ (T.ne e' rfl) e', t'⟩
theorem RelT.turn {P x : Addr} {s s₁ : Shared} {h' : Heap} {tk : Nat} (r : RelT s.heap.objs.size P s s₁) (hx : @LE.le Nat _ s.heap.objs.size x) (mv : ∀ b o, b ≠ x → s₁.heap.get? b = some o → h'.get? b = some o) : RelT s.heap.objs.size P s { s₁ with heap := h', toks := tk } := by
  have ne : ∀ {b : Addr} {o : Obj}, s.heap.get? b = some o → b ≠ x := fun e => Nat.ne_of_lt (Nat.lt_of_lt_of_le (Heap.lt_size e) hx)
  exact ⟨fun b o e hn => mv b o (ne e) (r.kt b o e hn), fun b o h1 h2 e => mv b o (ne e) (r.kz b o h1 h2 e), r.gens, r.drawn, r.os⟩
theorem turn_ns {x : Addr} {h h' : Heap} {m : Str → Option Value} (hn : h.Ns x m) (mv : ∀ b o, b ≠ x → h.get? b = some o → h'.get? b = some o) : Turn1 x h h' :=
  let ⟨o, es, ep, e, hd, _⟩ := hn; ⟨⟨o, e, fun fs q => (by rw [hd] at q; cases q), fun xs n q => (by rw [hd] at q; cases q)⟩, mv⟩
theorem turn_cell {x : Addr} {h h' : Heap} {o : Obj} {v : Option Value} (e : h.get? x = some o) (hd : o.data = .cell v) (mv : ∀ b o, b ≠ x → h.get? b = some o → h'.get? b = some o) : Turn1 x h h' :=
  ⟨⟨o, e, fun fs q => (by rw [hd] at q; cases q), fun xs n q => (by rw [hd] at q; cases q)⟩, mv⟩
/-- the frame over a heap whose tables may grow -/
theorem fr_rel {P L : Addr} {s s₁ s₂ : Shared} {m : Str → Option Value} (F : Fr (hideAll s.heap [P]) L s₁.heap m) (r : RelT s.heap.objs.size P s₁ s₂) : Fr (hideAll s.heap [P]) L s₂.heap m := by
  refine ⟨r.kt.ns F.ns, fun b o e => ?_, F.above⟩
  have hl := Heap.lt_size e
  rw [hideAll_size] at hl
  exact r.kz b o hl (fun q => by rw [q, hideAll_none _ (by simp)] at e; cases e) (F.keep b o e)
end Mine
namespace Mine
open PySem PySem.W PySem.Calls PyProof.Rows

section
variable {prog : Program} {w : World} {A : Around} {E : Value → Shared → Prop} {s : Shared} {env : Env}

/-- a for whose name is a cell -/
theorem loop_cell {x : Str} {px : Pos} {body : List Stmt} {I c : Addr} {fp wr : List Addr} {n : Nat} {P : Nat → Value → Prop} {St : Nat → Heap → Prop} {Q : Flow → Shared → Prop} {R : Value → Shared → Prop}
    (J : Nat → Shared → Prop) (W : Walks prog w A I fp wr n P St) (hcf : c ∉ fp)
    (hk : env.scope.kind = .function) (hx : env.kindOf x = some .cell) (hc : env.cells.lookup x = some c)
    (hst : St 0 s.heap) (h0 : J 0 s) (hcell : ∀ i s, J i s → ∃ v, s.heap.IsCell c v)
    (hJ : ∀ i s h' tk, J i s → (∀ b o, b ∉ wr → s.heap.get? b = some o → h'.get? b = some o) → J i { s with heap := h', toks := tk })
    (turn : ∀ i v s₀ h₁ E', i < n → P i v → J i s₀ → Heap.SameBut c s₀.heap h₁ → h₁.IsCell c (some v) → St (i + 1) h₁ →
      wpAny (model prog w) A (execs body env) (fun f s' => match f with
        | .next | .cont => (∀ b ∈ fp, ∀ o, h₁.get? b = some o → s'.heap.get? b = some o) ∧ J (i + 1) s'
        | .brk => Q .next s'
        | .ret v => Q (.ret v) s') E' { s₀ with heap := h₁ })
    (done : ∀ s', J n s' → Q .next s') :
    codeAny (model prog w) A (.forLoop (.Name x px) (.ref I) body [] env) (fun r s' => match r with | .ok f => Q f s' | .error e => R e s') s := by
  refine codeAny_forLoop (fun k s' => ∃ i, St i s'.heap ∧ J i s' ∧ i ≤ n ∧ k = n + 1 - i) ?_ (n + 1) ⟨0, hst, h0, Nat.zero_le _, rfl⟩
  rintro k s' ⟨i, hst', hJi, hi, rfl⟩
  by_cases hlt : i < n
  · refine W.item i _ _ _ hlt hst' fun v h₁ tk₁ hP hst₁ hk₁ => ?_
    have hJ₁ := hJ i s' h₁ tk₁ hJi hk₁
    obtain ⟨v₀, hc₀⟩ := hcell _ _ hJ₁
    refine wpAny_assign_Name (wpAny_storeName_cell hk hx hc hc₀ fun h₂ hv hs => ?_)
    have hst₂ : St (i + 1) h₂ := W.frame _ _ _ hst₁ fun b hb o e => hs.extBut b o (fun h => hcf (h ▸ hb)) e
    refine wpAny_mono (turn i v _ h₂ _ hlt hP hJ₁ hs hv hst₂) (fun f s₃ h₃ => ?_) fun _ _ e => e
    have fin : ((∀ b ∈ fp, ∀ o, h₂.get? b = some o → s₃.heap.get? b = some o) ∧ J (i + 1) s₃) →
        ∃ k', k' < n + 1 - i ∧ ∃ i, St i s₃.heap ∧ J i s₃ ∧ i ≤ n ∧ k' = n + 1 - i := by
      rintro ⟨hk₃, hJ₃⟩
      exact ⟨n + 1 - (i + 1), by (first | lia | omega), i + 1, W.frame _ _ _ hst₂ hk₃, hJ₃, hlt, rfl⟩
    cases f with
    | next => exact fin h₃
    | cont => exact fin h₃
    | brk => exact h₃
    | ret v => exact h₃
  · have hin : i = n := by (first | lia | omega)
    subst hin
    refine W.done _ _ _ hst' fun h₁ tk₁ hk₁ => wpAny_execs_nil ?_
    exact done _ (hJ i s' h₁ tk₁ hJi hk₁)

theorem for_rangeC {x : Str} {px : Pos} {body : List Stmt} {r c : Addr} {a₀ b₀ : Int} {t₀ u₀ v₀ : Tok} {n : Nat} {Q : Flow → Shared → Prop} {R : Value → Shared → Prop} (J : Nat → Shared → Prop)
    (hh : A.handled = none) (hr : IsRange s.heap r a₀ b₀ 1 t₀ u₀ v₀) (hsmall : Builtin.Range.small a₀ b₀ 1 = true) (hn : Builtin.Range.rangeSize a₀ b₀ 1 = (n : Int)) (hcI : c < s.heap.objs.size)
    (hk : env.scope.kind = .function) (hx : env.kindOf x = some .cell) (hc : env.cells.lookup x = some c)
    (h0 : ∀ h' tk, Keep s.heap h' → J 0 { s with heap := h', toks := tk }) (hcell : ∀ i s, J i s → ∃ v, s.heap.IsCell c v)
    (hJ : ∀ i s₁ h' tk, J i s₁ → (∀ b o, b ≠ s.heap.objs.size → s₁.heap.get? b = some o → h'.get? b = some o) → J i { s₁ with heap := h', toks := tk })
    (turn : ∀ i t s₀ h₁ oI E', i < n → J i s₀ → Heap.SameBut c s₀.heap h₁ → h₁.IsCell c (some (.int (a₀ + i) t)) → h₁.get? s.heap.objs.size = some oI → (∀ ps, oI ≠ tabObj ps) →
      wpAny (model prog w) A (execs body env) (fun f s' => match f with
        | .next | .cont => s'.heap.get? s.heap.objs.size = some oI ∧ J (i + 1) s'
        | .brk => Q .next s'
        | .ret v => Q (.ret v) s') E' { s₀ with heap := h₁ })
    (done : ∀ s', J n s' → Q .next s') :
    wpAny (model prog w) A (pyIter (.ref r)) (fun it s₂ => codeAny (model prog w) A (.forLoop (.Name x px) it body [] env) (fun r s' => match r with | .ok f => Q f s' | .error e => R e s') s₂) E s := by
  refine wpAny_pyIter_range hr hsmall ?_
  refine loop_cell (n := n) (c := c) J (Walks.range hh s.heap.objs.size a₀ 1 n) (fun q => ?_) hk hx hc (by show IsRangeIter _ _ _ _ _; rw [hn]; simpa using Heap.get?_push_size _ rfl) (h0 _ _ fun b o e => Heap.get?_push_of_some _ e) hcell ?_ ?_ done
  · rw [List.mem_singleton.mp q] at hcI; exact Nat.lt_irrefl _ hcI
  · intro i s₁ h' tk hj hk
    exact hJ i s₁ h' tk hj fun b o hb e => hk b o (fun hm => hb (List.mem_singleton.mp hm)) e
  · rintro i v s₀ h₁ E' hi ⟨t, rfl⟩ hj hs hv hst
    obtain ⟨oI, hst', hnI⟩ : ∃ o, h₁.get? s.heap.objs.size = some o ∧ ∀ ps, o ≠ tabObj ps := ⟨_, hst, tab_cls rfl (by simp)⟩
    rw [Int.mul_one] at hv
    refine wpAny_mono (turn i t s₀ h₁ oI E' hi hj hs hv hst' hnI) (fun f s' h => ?_) fun _ _ e => e
    have fin : (s'.heap.get? s.heap.objs.size = some oI ∧ J (i + 1) s') →
        (∀ b ∈ [s.heap.objs.size], ∀ o, h₁.get? b = some o → s'.heap.get? b = some o) ∧ J (i + 1) s' := by
      rintro ⟨k1, j⟩
      refine ⟨fun b hb o e => ?_, j⟩
      rw [List.mem_singleton.mp hb] at e ⊢
      rw [hst'] at e; cases e
      exact k1
    cases f with
    | next => exact fin h
    | cont => exact fin h
    | brk => exact h
    | ret v => exact h

/-- «k >> i» -/
theorem r_shr {k i : Nat} {t u : Tok} {Q : Value → Shared → Prop} (h : ∀ t, Q (.int ((k / 2 ^ i : Nat) : Int) t) { s with toks := s.toks + 1 }) : wpAny (model prog w) A (binaryOp .RShift (.int (k : Nat) t) (.int (i : Nat) u)) Q E s := by
  refine AutoIntOpsIf.rshift ?_
  rw [if_neg (Int.not_lt.mpr (Int.natCast_nonneg _))]
  split
  · rename_i hc
    show Q (.int (if ((k : Nat) : Int) < 0 then -1 else 0) _) _
    rw [if_neg (Int.not_lt.mpr (Int.natCast_nonneg _))]
    have e : k / 2 ^ i = 0 := by
      refine Nat.div_eq_of_lt ?_
      by_cases hk : k = 0
      · subst hk; exact Nat.two_pow_pos _
      · unfold Builtin.Int.intBits at hc
        rw [if_neg (by simpa using hk)] at hc
        have hc' : k.log2 + 1 ≤ i := by
          have q : ((k.log2 : Nat) : Int) + 1 ≤ (i : Nat) := by simpa using hc
          (first | lia | omega)
        exact Nat.lt_of_lt_of_le Nat.lt_log2_self (Nat.pow_le_pow_right (by decide) hc')
    have := h s.toks
    rw [e] at this; exact this
  · show Q (.int (Int.fdiv ((k : Nat) : Int) (2 ^ ((i : Nat) : Int).toNat)) _) _
    have e : Int.fdiv ((k : Nat) : Int) (2 ^ ((i : Nat) : Int).toNat) = ((k / 2 ^ i : Nat) : Int) := by
      rw [Int.toNat_natCast, Int.fdiv_eq_ediv_of_nonneg _ (Int.pow_nonneg (by decide))]
      simp
    rw [e]; exact h _

theorem paired_app {α β : Type} {R : α → β → Prop} {l : List α} {l' : List β} (h : Paired R l l') {k : List α} {k' : List β} (h' : Paired R k k') : Paired R (l ++ k) (l' ++ k') := by
  induction h with
  | nil => exact h'
  | cons r t ih => exact .cons r ih
/-- «xs + ys» of lists of lists of ints -/
theorem r_plus {a b : Addr} {css ds : List (List Int)} {Q : Value → Shared → Prop} (ha : IsLL s.heap a css) (hb : IsLL s.heap b ds) (hsz : css.length + ds.length ≤ 1000)
    (h : ∀ D h', Keep s.heap h' → IsLL h' D (css ++ ds) → Q (.ref D) { s with heap := h' }) : wpAny (model prog w) A (binaryOp .Add (.ref a) (.ref b)) Q E s := by
  obtain ⟨vs, ⟨⟨cls, dd, data, sl⟩, ho, hc, n, hd⟩, hp⟩ := ha
  obtain ⟨ws, ⟨⟨cls2, dd2, data2, sl2⟩, ho2, hc2, n2, hd2⟩, hp2⟩ := hb
  simp only at hc hd hc2 hd2
  subst hc hd hc2 hd2
  have e : vs.toArray ++ ws.toArray = (vs ++ ws).toArray := by simp
  refine concat_meets ⟨_, ho, rfl⟩ ⟨_, ho2, rfl⟩ noFill_list_add seq_list_add PySem.F.slot_list_add PySem.F.entry_list_add (PySem.F.args_list_add_2 _ _) (list_addW a b vs.toArray ws.toArray n n2 dd dd2 sl sl2 (by simp only [List.size_toArray]; rw [paired_len hp, paired_len hp2]; exact Nat.le_trans hsz (by decide))) ⟨ho, ho2, ?_⟩
  rw [e]
  have k : Keep s.heap (s.heap.push { cls := .type "list", data := .seq (vs ++ ws).toArray }) := fun b o e => Heap.get?_push_of_some _ e
  exact h _ _ k ⟨vs ++ ws, ⟨_, Heap.get?_push_size _ rfl, rfl, _, rfl⟩, paired_app (hp.mono fun _ _ x => x.keep k) (hp2.mono fun _ _ x => x.keep k)⟩
/-- «xs[-1]», of a list of any values -/
theorem r_lastV {value slice : Expr} {l : Addr} {vs : List Value} {v : Value} {u : Tok} {Q : Value → Shared → Prop} (hl : s.heap.IsList l vs.toArray) (h1 : 1 ≤ vs.length) (hv : vs[vs.length - 1]? = some v) (h : Q v s)
    (hs : subscripted slice false (.ref l) (.int (-1) u) = operate [.ref l, .int (-1) u] (getItem (.ref l) (.int (-1) u))) :
    wpAny (model prog w) A (subscriptTail value slice (.ref l) (.int (-1) u)) Q E s := by
  refine tail_any hl.typeIs slot_list_getitem.lookup (wpAny_getItem_list_neg (x := v) hl (by decide) ?_ (by decide) ?_ h) hs
  · simp only [List.size_toArray]; (first | lia | omega)
  · have : (-1 + ((vs.toArray.size : Nat) : Int)).toNat = vs.length - 1 := by simp only [List.size_toArray]; (first | lia | omega)
    rw [this]; simpa using hv
end
end Mine
namespace Mine
open PySem PySem.W PySem.Calls PyProof.Rows

theorem smA {a : Int} {k : Nat} (h0 : 0 ≤ a) (h1 : a ≤ 10) (h2 : k ≤ 10) : Builtin.Range.small a (a + (k : Nat)) 1 = true := small_one (by (first | lia | omega)) (by (first | lia | omega)) (by (first | lia | omega)) (by (first | lia | omega))
theorem szA (a : Int) (k : Nat) : Builtin.Range.rangeSize a (a + (k : Nat)) 1 = (k : Int) := range_size (by (first | lia | omega))

section
variable {M : Model} {prog : Program} {w : World} {A : Around} {E : Value → Shared → Prop} {s s₀ s₂ s' : Shared} {g : Heap} {L a C D : Addr} {m : Str → Option Value} {cn : Str} {cs : Scope} {ccd : Value} {cl : List (Str × Addr)} {x y : Str} {v : Value} {news : List (Addr × Obj)} {ys : List Value} {Z : Heap → Nat → Prop}

/-- a list display -/
theorem r_newL {its : List Value} {Q : Value → Shared → Prop} (hsz : its.length ≤ 1000) (h : ∀ D h', Keep s.heap h' → h'.get? D = some (listOf its.toArray 0) → Q (.ref D) { s with heap := h' }) : wpAny M A (newList its) Q E s :=
  wpAny_newList (h _ _ (fun b o e => Heap.get?_push_of_some _ e) (Heap.get?_push_size _ rfl)) (Nat.le_trans hsz (by decide))

/-- a name of the frame's is stored: what stood at s₀ stays -/
theorem r_storeK {Q : Unit → Shared → Prop} (F : Fr g L s.heap m) (N : News g L s.heap news) (kS : Keep s₀.heap s.heap) (hzL : @LE.le Nat _ s₀.heap.objs.size L)
    (h : ∀ h' tk, Fr g L h' (up m x v) → News g L h' news → Keep s₀.heap h' → Turn1 L s.heap h' → Q () { s with heap := h', toks := tk })
    (hk : cs.kind = .function) (hx : (envX cn cs L a ccd cl).kindOf x = some .local) : wpAny M A (storeName (envX cn cs L a ccd cl) x v) Q E s :=
  r_storeB F N (fun h' tk F' N' mv => h h' tk F' N' (fun b o e => mv b o (Nat.ne_of_lt (Nat.lt_of_lt_of_le (Heap.lt_size e) hzL)) (kS b o e)) (turn_ns F.ns mv)) hk hx

/-- a comprehension's list goes into the frame: what stood at s₀ stays, and lists of lists -/
theorem fin_K (F : Fr g L s.heap m) (N : News g L s.heap news) (kS : Keep s₀.heap s.heap) (hzL : @LE.le Nat _ s₀.heap.objs.size L) (k₂ : Keep s.heap s₂.heap) (kp : Keep s.heap s'.heap) (hC : s.heap.objs.size < C) (hD : s.heap.objs.size < D)
    (k : ∀ h' tk, Fr g L h' (up m y (.ref D)) → News g L h' news → Keep s₀.heap h' → (∀ {b css}, IsLL s.heap b css → IsLL h' b css) → (∀ {css}, Paired (IsI s'.heap) ys css → (∀ y ∈ ys, y ≠ .ref C) → IsLL h' D css) → Z h' tk) :
    ∃ m, Fr g L s'.heap m ∧ Keep g s₂.heap ∧ (∃ oL, s₂.heap.get? L = some oL) ∧ ∀ h' tk, Fr g L h' (up m y (.ref D)) → h'.PlainList D ys.toArray →
        (∀ b o, b ≠ L → b ≠ C → s'.heap.get? b = some o → h'.get? b = some o) → Z h' tk :=
  fin_assign F N k₂ kp hC hD fun h' tk q F' N' hk' => by
    have mvl : ∀ {b : Addr} {its : Array Value}, s.heap.IsList b its → h'.IsList b its := fun {b its} hl => hl.at fun o e => hk' b o (list_ne_ns hl F.ns) (Nat.ne_of_lt (Nat.lt_trans (list_lt hl) hC)) (kp _ _ e)
    refine k h' tk F' (news_sub N' fun p hp => List.mem_cons_of_mem _ hp) (fun b o e => ?_) (fun {b css} x => ?_) (fun {css} hp hy => ?_)
    · have e' := kS b o e
      exact hk' b o (Nat.ne_of_lt (Nat.lt_of_lt_of_le (Heap.lt_size e) hzL)) (Nat.ne_of_lt (Nat.lt_trans (Heap.lt_size e') hC)) (kp _ _ e')
    · obtain ⟨vs, hl, hp⟩ := x
      exact ⟨vs, mvl hl, hp.mono fun _ _ ⟨b, its, e, hl, hi⟩ => ⟨b, its, e, mvl hl, hi⟩⟩
    · exact ⟨ys, IsL.isList (N'.get (.head _)), paired_moved hp (F.keeps kp).ns hy hk'⟩
end

theorem RelT.weak {z z' : Nat} {P : Addr} {s s' : Shared} (r : RelT z P s s') (h : z' ≤ z) : RelT z' P s s' := ⟨r.kt, fun b o hb hP e => r.kz b o (Nat.lt_of_lt_of_le hb h) hP e, r.gens, r.drawn, r.os⟩
/-- the ledger's cells stay where tables alone are turned -/
theorem news_kt {g h h' : Heap} {L : Addr} {news : List (Addr × Obj)} (N : News g L h news) (k : KeepT h h') (hc : ∀ p ∈ news, ∃ v, p.2.data = .cell v) : News g L h' news :=
  fun p hp => ⟨k _ _ (N p hp).1 (tab_data fun ps q => by obtain ⟨v, e⟩ := hc p hp; rw [e] at q; cases q), (N p hp).2⟩
end Mine

namespace Mine
open_top hd for PySem.Challenge.rw_k11_0035
example : (PySem.Challenge.rw_k11_0035, hd.heap_39) = (PySem.Challenge.rw_k11_0035, hd.heap_39) := by k_fill; rfl
end Mine
namespace Mine
example : (PySem.Challenge.rw_k11_0035, hd.heap_39) = (PySem.Challenge.rw_k11_0035, hd.heap_39) := by k_fill; rfl
section
variable {prog : Program} {w : World} {A : Around} {E : Value → Shared → Prop} {s : Shared} {p : Program} {loose : List Str} {mg mb : Str → Option Value}

theorem literal_value_ok {Q : Value → Shared → Prop} {lit : Int} {t : Tok} {v : Addr} {vs : List Value} {W : List Int} {n : Nat}
    (G : Gd (hd.heap_39 w.params) p loose mg mb s.heap) (R : Room A 1) (hl : s.heap.IsList v vs.toArray) (hi : IntsAre vs W) (hv : Valid n lit) (hW : W.length = n + 1) (hn : n ≤ 3)
    (ret : ∀ t' s', Same s s' → Keep s.heap s'.heap → Q (.int (litVal lit W) t') s') :
    wpAny (model prog w) A (call (.ref 35) [.int lit t, .ref v]) Q E s := by
  refine enter (g := s.heap) (binds := [("lit", .int lit t), ("values", .ref v)]) G (Keep.refl _) (Nat.le_refl _) (by k_is) (by k_is) R.room (BindsTo.of_eq rfl) (locs rfl) ?_ rfl rfl rfl (by decide)
  intro L h tk F hk hL
  have N : News s.heap L h [] := News.nil
  obtain ⟨hv1, hv2⟩ := hv
  (repeat (first | with_reducible refine wpAny_execs_cons ?_ | with_reducible refine wpAny_If ?_ | (with_reducible refine wpAny_isTrue_Compare1 ?_ (by with_unfolding_all rfl)) | with_reducible refine wpAny_Constant_int ?_ | with_reducible refine gt_int ?_ | with_reducible refine wpAny_truthy_bool ?_ | ((with_reducible show wpAny _ _ (eval (Expr.Name _ _) _) _ _ _); (first | (refine nameX_L (v := _) F (by (repeat (first | with_reducible assumption | with_reducible exact up_eq _ _ _ | refine (up_ne (by decide)).trans ?_ | exact rfl))) ?_ rfl rfl (by decide)) | (refine nameX_C (c := _) (o := _) (v := _) N rfl (by k_mem) (by assumption) ?_ rfl rfl (by decide)) | (refine r_glob G F (by k_is) ?_ rfl rfl (by decide)) | (refine r_boot G F (by boot_fast) (by k_is) (by decide) ?_ rfl rfl (by decide))))))
  refine split_bool (fun hc => ?_) (fun hc => ?_)
  · have hc' : 0 < lit := by simpa using hc
    (repeat (first | with_reducible refine wpAny_execs_cons ?_ | with_reducible refine wpAny_Return_some ?_ | with_reducible refine Subscript_ ?_ | ((with_reducible show wpAny _ _ (eval (Expr.Name _ _) _) _ _ _); (first | (refine nameX_L (v := _) F (by (repeat (first | with_reducible assumption | with_reducible exact up_eq _ _ _ | refine (up_ne (by decide)).trans ?_ | exact rfl))) ?_ rfl rfl (by decide)) | (refine nameX_C (c := _) (o := _) (v := _) N rfl (by k_mem) (by assumption) ?_ rfl rfl (by decide)) | (refine r_glob G F (by k_is) ?_ rfl rfl (by decide)) | (refine r_boot G F (by boot_fast) (by k_is) (by decide) ?_ rfl rfl (by decide))))))
    refine r_item (stays_list F.keep hl) hi (by (first | lia | omega)) (by (first | lia | omega)) (by (first | lia | omega)) (fun t' => ?_) (by with_unfolding_all rfl)
    have e : litVal lit W = W.getD lit.toNat 0 := by unfold litVal; rw [if_pos hc']
    rw [← e]
    exact ret _ _ (Same.of _ _ _) F.keep
  · have hc' : ¬ 0 < lit := by simpa using hc
    (repeat (first | with_reducible refine wpAny_execs_cons ?_ | with_reducible refine wpAny_execs_nil ?_ | with_reducible refine wpAny_Return_some ?_ | with_reducible refine UnaryOp_ ?_ | with_reducible refine Subscript_ ?_ | with_reducible refine P.neg_int ?_ | ((with_reducible show wpAny _ _ (eval (Expr.Name _ _) _) _ _ _); (first | (refine nameX_L (v := _) F (by (repeat (first | with_reducible assumption | with_reducible exact up_eq _ _ _ | refine (up_ne (by decide)).trans ?_ | exact rfl))) ?_ rfl rfl (by decide)) | (refine nameX_C (c := _) (o := _) (v := _) N rfl (by k_mem) (by assumption) ?_ rfl rfl (by decide)) | (refine r_glob G F (by k_is) ?_ rfl rfl (by decide)) | (refine r_boot G F (by boot_fast) (by k_is) (by decide) ?_ rfl rfl (by decide))))))
    refine r_item (stays_list F.keep hl) hi (by (first | lia | omega)) (by (first | lia | omega)) (by (first | lia | omega)) (fun t' => ?_) (by with_unfolding_all rfl)
    (repeat (first | with_reducible refine P.neg_int ?_))
    have e : litVal lit W = -(W.getD (-lit).toNat 0) := by unfold litVal; rw [if_neg hc']
    rw [← e]
    exact ret _ _ (Same.of _ _ _) F.keep
end
end Mine
namespace Mine
section
variable {prog : Program} {w : World} {A : Around} {E : Value → Shared → Prop} {s : Shared} {p : Program} {loose : List Str} {mg mb : Str → Option Value}

def csTag : CS → Str
  | .tru => "true"
  | .fls => "false"
  | .opn => "open"
  | .unit _ => "unit"
def csLit : CS → Int
  | .unit l => l
  | _ => 0

theorem ints_at {vs : List Value} {ns : List Int} (hi : IntsAre vs ns) {i : Nat} {v : Value} (h : vs.toArray[i]? = some v) : ∃ t, v = .int (ns.getD i 0) t ∧ i < ns.length := by
  have h' : vs[i]? = some v := by simpa using h
  have hlt : i < vs.length := (List.getElem?_eq_some_iff.mp h').1
  have hlt' : i < ns.length := by rw [← hi.length]; exact hlt
  obtain ⟨t, ht⟩ := hi.get i ns[i] (by simp [hlt'])
  rw [h'] at ht
  refine ⟨t, ?_, hlt'⟩
  have e : ns.getD i 0 = ns[i] := by simp [hlt']
  rw [e]; exact Option.some.inj ht

theorem getD_mem {l : List Int} {i : Nat} (h : i < l.length) : l.getD i 0 ∈ l := by
  rw [List.getD_eq_getElem?_getD, List.getElem?_eq_getElem h]; exact List.getElem_mem _
theorem take_getD {l : List Int} {i : Nat} (h : i < l.length) : l.take (i + 1) = l.take i ++ [l.getD i 0] := by
  rw [List.take_add_one, List.getD_eq_getElem?_getD, List.getElem?_eq_getElem h]; rfl

theorem clause_state_ok {Q : Value → Shared → Prop} {c v : Addr} {cs vs : List Value} {cl W : List Int} {n : Nat}
    (G : Gd (hd.heap_39 w.params) p loose mg mb s.heap) (R : Room A 2) (hc : s.heap.IsList c cs.toArray) (hci : IntsAre cs cl) (hl : s.heap.IsList v vs.toArray) (hi : IntsAre vs W) (hv : ValidC n cl) (hW : W.length = n + 1) (hn : n ≤ 3) (hsz : cl.length ≤ 1000)
    (ret : ∀ T t₁ t₂ s', Same s s' → Keep s.heap s'.heap → IsTup s'.heap T #[.str (csTag (clauseState cl W)) t₁, .int (csLit (clauseState cl W)) t₂] → Q (.ref T) s') :
    wpAny (model prog w) A (call (.ref 40) [.ref c, .ref v]) Q E s := by
  have hcs : cs.toArray.size = cl.length := by simp [hci.length]
  refine enterC (g := s.heap) (binds := [("clause", .ref c), ("values", .ref v)]) G (Keep.refl _) (Nat.le_refl _) (by k_is) (by k_is) R.room (BindsTo.of_eq rfl) rfl (by decide +kernel) ?_ rfl rfl rfl
  intro L h tk cells F N Y hk hL
  obtain ⟨oc, rfl, dc⟩ := CellsAre.one (n := "values") (c := L + 1) Y
  replace dc : oc.data = .cell (some (.ref v)) := dc
  have hcL : c ≠ L := Nat.ne_of_lt (Nat.lt_of_lt_of_le (list_lt hc) hL)
  (repeat (first | with_reducible refine wpAny_execs_cons ?_))
  refine wpAny_For ?_ (fun _ => rfl)
  (repeat (first | ((with_reducible show wpAny _ _ (eval (Expr.Name _ _) _) _ _ _); (first | (refine nameX_L (v := _) F (by (repeat (first | with_reducible assumption | with_reducible exact up_eq _ _ _ | refine (up_ne (by decide)).trans ?_ | exact rfl))) ?_ rfl rfl (by decide)) | (refine nameX_C (c := _) (o := _) (v := _) N rfl (by k_mem) (by assumption) ?_ rfl rfl (by decide)) | (refine r_glob G F (by k_is) ?_ rfl rfl (by decide)) | (refine r_boot G F (by boot_fast) (by k_is) (by decide) ?_ rfl rfl (by decide))))))
  have NI := news_ne N
  refine for_list (items := cs.toArray) (fun i m s' => Same s s' ∧ m "clause" = some (.ref c) ∧ News s.heap L s'.heap [(L + 1, oc)] ∧ (cl.take i).any (fun l => litVal l W == 1) = false)
    R.handled (stays_list F.keep hc) hcL rfl rfl F ?_ ?_ ?_ ?_
  · intro h' tk' k
    exact ⟨Same.of _ _ _, rfl, N.grown k, by simp⟩
  · rintro i m s₁ h' tk' ⟨a, b, c, d⟩ k
    exact ⟨a.set _ _, b, news_move c NI k, d⟩
  · rintro i x m s₁ E' hx ⟨hs₁, hm, N, hany⟩ F - ⟨oI, hoI⟩
    obtain ⟨t, rfl, hlt⟩ := ints_at hci hx
    replace F : Fr s.heap L s₁.heap (up m "lit" (.int (cl.getD i 0) t)) := F
    have hmem : cl.getD i 0 ∈ cl := getD_mem hlt
    have htake : cl.take (i + 1) = cl.take i ++ [cl.getD i 0] := take_getD hlt
    (repeat (first | with_reducible refine wpAny_execs_cons ?_ | with_reducible refine wpAny_If ?_ | (with_reducible refine wpAny_isTrue_Compare1 ?_ (by with_unfolding_all rfl)) | ((with_reducible show wpAny _ _ (eval (Expr.Name _ _) _) _ _ _); (first | (refine nameX_L (v := _) F (by (repeat (first | with_reducible assumption | with_reducible exact up_eq _ _ _ | refine (up_ne (by decide)).trans ?_ | exact rfl))) ?_ rfl rfl (by decide)) | (refine nameX_C (c := _) (o := _) (v := _) N rfl (by k_mem) (by assumption) ?_ rfl rfl (by decide)) | (refine r_glob G F (by k_is) ?_ rfl rfl (by decide)) | (refine r_boot G F (by boot_fast) (by k_is) (by decide) ?_ rfl rfl (by decide)))) | (with_reducible refine args_cons ?_ rfl) | (with_reducible refine args_nil ?_) | ((with_reducible show Keep _ _ ∧ _); refine And.intro F.keep ?_) | ((with_reducible show wpAny _ _ (callWith _ (Value.ref _) [] _ []) _ _ _); refine r_callf G (by k_is) ?_ rfl rfl) | (with_reducible refine Call_ ?_ rfl)))
    refine literal_value_ok (G.keeps F.keep) (R.deeper _) (stays_list F.keep hl) hi (hv _ hmem) hW hn (fun t' s' sm kp => ?_)
    replace F := F.keeps kp
    replace N := N.grown kp
    (repeat (first | with_reducible refine wpAny_Constant_int ?_ | with_reducible refine eq_int ?_ | with_reducible refine wpAny_truthy_bool ?_))
    refine split_bool (fun hc => ?_) (fun hc => ?_)
    · (repeat (first | with_reducible refine wpAny_execs_cons ?_ | with_reducible refine wpAny_Return_some ?_ | with_reducible refine wpAny_Constant_int ?_ | with_reducible refine wpAny_Constant_str ?_ | with_reducible refine Tuple_ ?_ | (with_reducible refine args_cons ?_ rfl) | (with_reducible refine args_nil ?_) | ((with_reducible show wpAny _ _ (newTuple _) _ _ _); (refine newTuple_N F N ?_ (by size_fits)); clear F N; intro h F N)))
      have e : clauseState cl W = .tru := by
        unfold clauseState
        rw [if_pos (List.any_eq_true.mpr ⟨_, hmem, hc⟩)]
      exact ret _ _ _ _ ((hs₁.trans sm).set _ _) F.keep (by rw [e]; exact ⟨_, N.get (List.mem_cons_self ..), rfl, _, rfl⟩)
    · (repeat (first | with_reducible refine wpAny_execs_nil ?_))
      refine ⟨_, F, fun o e => kp _ _ e, fun o e => kp _ _ e, (hs₁.trans sm).set _ _, (up_ne (by decide)).trans hm, N, ?_⟩
      rw [htake, List.any_append, hany]
      simpa using hc
  · rintro m s₁ ⟨hs₁, hm, N, hany⟩ F
    rw [hcs, List.take_length] at hany
    show wpAny _ _ _ _ _ _
    (repeat (first | with_reducible refine wpAny_execs_cons ?_))
    refine comp_assign (g := s.heap) (cl := [("values", L + 1)]) rfl rfl (by decide) rfl (by decide) rfl rfl rfl ?_ (fun _ => rfl)
    (repeat (first | ((with_reducible show wpAny _ _ (eval (Expr.Name _ _) _) _ _ _); (first | (refine nameX_L (v := _) F (by (repeat (first | with_reducible assumption | with_reducible exact up_eq _ _ _ | refine (up_ne (by decide)).trans ?_ | exact rfl))) ?_ rfl rfl (by decide)) | (refine nameX_C (c := _) (o := _) (v := _) N rfl (by k_mem) (by assumption) ?_ rfl rfl (by decide)) | (refine r_glob G F (by k_is) ?_ rfl rfl (by decide)) | (refine r_boot G F (by boot_fast) (by k_is) (by decide) ?_ rfl rfl (by decide))))))
    refine wpAny_mono (src_list (show A.handled = none from R.handled) (stays_list F.keep hc)) (fun it s₂ hit => ?_) fun _ _ e => e
    refine compIn_v hit (by rw [hcs]; exact Nat.le_trans hsz (by decide)) (fun i ys => IntsAre ys ((cl.take i).filter fun l => litVal l W == 0)) (by simpa using IntsAre.nil) ?_ ?_
    · intro C i ys x s₃ m₃ E' hi' hx hj sm kp hn₃ hm₃
      obtain ⟨t, rfl, hlt⟩ := ints_at hci hx
      have hmem : cl.getD i 0 ∈ cl := getD_mem hlt
      have htake : cl.take (i + 1) = cl.take i ++ [cl.getD i 0] := take_getD hlt
      have G₃ := G.keeps (fun b o e => kp b o (F.keep b o e))
      have dc₃ : s₃.heap.IsCell (L + 1) (some (.ref v)) := ⟨oc, kp _ _ (N.get (List.mem_cons_self ..)), dc⟩
      refine tests_one ?_
      refine wpAny_isTrue_Compare1 ?_ (by with_unfolding_all rfl)
      refine Call_ ?_ rfl
      refine e_glob G₃ (by k_is) ?_ rfl rfl rfl (by decide)
      refine r_callf G₃ (by k_is) ?_ rfl rfl
      refine args_cons ?_ rfl
      refine e_local hn₃ hm₃ ?_ rfl rfl (by decide)
      refine args_cons ?_ rfl
      refine e_cell (c := L + 1) rfl dc₃ ?_ rfl rfl (by decide)
      refine args_nil ?_
      refine ⟨fun _ _ e => e, ?_⟩
      refine literal_value_ok G₃ (R.deeper _) (stays_list kp (stays_list F.keep hl)) hi (hv _ hmem) hW hn (fun t' s' sm' kp' => ?_)
      (repeat (first | with_reducible refine wpAny_Constant_int ?_ | with_reducible refine eq_int ?_ | with_reducible refine wpAny_truthy_bool ?_))
      refine ⟨sm'.trans (Same.of _ _ _), kp', ?_⟩
      refine split_bool (fun hc => ?_) (fun hc => ?_)
      · refine e_local (hn₃.keeps kp') hm₃ ?_ rfl rfl (by decide)
        refine ⟨Same.refl _, Keep.refl _, ?_⟩
        rw [htake, List.filter_append, List.filter_cons_of_pos (by simpa using hc)]
        exact IntsAre.append hj (IntsAre.cons _ _ IntsAre.nil)
      · rw [htake, List.filter_append, List.filter_cons_of_neg (by simpa using hc)]
        simpa using hj
    · intro C D ys s' hCD hC hD hj sm kp hpl
      rw [hcs, List.take_length] at hj
      obtain ⟨fp, St, _, _, _, _, _, _, k₂⟩ := hit
      refine fin_assign F N k₂ kp hC hD (fun h tk q F N hk' => ?_)
      replace sm : Same s s' := hs₁.trans sm
      have hD : h.IsList D ys.toArray := ⟨_, N.get (List.mem_cons_self ..), rfl, q, rfl⟩
      have hDL : D ≠ L := (N (D, listOf ys.toArray q) (List.mem_cons_self ..)).2.1
      have hst : clauseState cl W = match cl.filter (fun l => litVal l W == 0) with
          | [] => .fls
          | u :: us => if (u :: us).any (fun l => l != u) then .opn else .unit u := by
        unfold clauseState
        rw [if_neg (by rw [hany]; simp)] <;> rfl
      have hul : (cl.filter fun l => litVal l W == 0).length ≤ 1000 := Nat.le_trans (List.length_filter_le _ _) hsz
      revert hj hst hul
      generalize cl.filter (fun l => litVal l W == 0) = us
      intro hj hst hul
      show wpAny _ _ _ _ _ _
      (repeat (first | with_reducible refine wpAny_execs_cons ?_ | with_reducible refine wpAny_If ?_ | (with_reducible refine wpAny_isTrue_Compare1 ?_ (by with_unfolding_all rfl)) | ((with_reducible show wpAny _ _ (eval (Expr.Name _ _) _) _ _ _); (first | (refine nameX_L (v := _) F (by (repeat (first | with_reducible assumption | with_reducible exact up_eq _ _ _ | refine (up_ne (by decide)).trans ?_ | exact rfl))) ?_ rfl rfl (by decide)) | (refine nameX_C (c := _) (o := _) (v := _) N rfl (by k_mem) (by assumption) ?_ rfl rfl (by decide)) | (refine r_glob G F (by k_is) ?_ rfl rfl (by decide)) | (refine r_boot G F (by boot_fast) (by k_is) (by decide) ?_ rfl rfl (by decide)))) | (with_reducible refine args_cons ?_ rfl) | (with_reducible refine args_nil ?_) | ((with_reducible show wpAny _ _ (callWith _ (Value.builtin _) [] _ []) _ _ _); refine callWith_builtin1 ?_ rfl rfl) | (with_reducible refine Call_ ?_ rfl)))
      refine r_len hD hj.length (by (first | lia | omega)) (fun t tk => ?_)
      (repeat (first | with_reducible refine wpAny_Constant_int ?_ | with_reducible refine eq_int ?_ | with_reducible refine wpAny_truthy_bool ?_))
      refine split_bool (fun hc => ?_) (fun hc => ?_)
      · have e0 : us = [] := by
          have : us.length = 0 := by simpa using hc
          exact List.length_eq_zero_iff.mp this
        subst e0
        (repeat (first | with_reducible refine wpAny_execs_cons ?_ | with_reducible refine wpAny_Return_some ?_ | with_reducible refine wpAny_Constant_int ?_ | with_reducible refine wpAny_Constant_str ?_ | with_reducible refine Tuple_ ?_ | (with_reducible refine args_cons ?_ rfl) | (with_reducible refine args_nil ?_) | ((with_reducible show wpAny _ _ (newTuple _) _ _ _); (refine newTuple_N F N ?_ (by size_fits)); clear F N; intro h F N)))
        exact ret _ _ _ _ (sm.set _ _) F.keep (by rw [hst]; exact ⟨_, N.get (List.mem_cons_self ..), rfl, _, rfl⟩)
      · obtain ⟨u, us, rfl⟩ : ∃ u r, us = u :: r := by
          cases us with
          | nil => simp at hc
          | cons u r => exact ⟨u, r, rfl⟩
        have hys : ys.toArray.size = (u :: us).length := by simp [hj.length]
        (repeat (first | with_reducible refine wpAny_execs_cons ?_ | with_reducible refine wpAny_execs_nil ?_))
        refine wpAny_For ?_ (fun _ => rfl)
        (repeat (first | ((with_reducible show wpAny _ _ (eval (Expr.Name _ _) _) _ _ _); (first | (refine nameX_L (v := _) F (by (repeat (first | with_reducible assumption | with_reducible exact up_eq _ _ _ | refine (up_ne (by decide)).trans ?_ | exact rfl))) ?_ rfl rfl (by decide)) | (refine nameX_C (c := _) (o := _) (v := _) N rfl (by k_mem) (by assumption) ?_ rfl rfl (by decide)) | (refine r_glob G F (by k_is) ?_ rfl rfl (by decide)) | (refine r_boot G F (by boot_fast) (by k_is) (by decide) ?_ rfl rfl (by decide))))))
        have NI := news_ne N
        refine for_list (items := ys.toArray) (fun i m s' => Same s s' ∧ m "unset" = some (.ref D) ∧ News s.heap L s'.heap [(D, listOf ys.toArray q), (L + 1, oc)] ∧ ((u :: us).take i).any (fun l => l != u) = false)
          R.handled hD hDL rfl rfl F ?_ ?_ ?_ ?_
        · intro h' tk' k
          exact ⟨sm.set _ _, up_eq _ _ _, N.grown k, by simp⟩
        · rintro i m s₁ h' tk' ⟨a, b, c, d⟩ k
          exact ⟨a.set _ _, b, news_move c NI k, d⟩
        · rintro i x m s₁ E' hx ⟨hs₁, hm, N, hany⟩ F hD - 
          obtain ⟨t, rfl, hlt⟩ := ints_at hj hx
          replace F : Fr s.heap L s₁.heap (up m "lit" (.int ((u :: us).getD i 0) t)) := F
          have hmem : (u :: us).getD i 0 ∈ (u :: us) := getD_mem hlt
          have htake : (u :: us).take (i + 1) = (u :: us).take i ++ [(u :: us).getD i 0] := take_getD hlt
          (repeat (first | with_reducible refine wpAny_execs_cons ?_ | with_reducible refine wpAny_If ?_ | (with_reducible refine wpAny_isTrue_Compare1 ?_ (by with_unfolding_all rfl)) | with_reducible refine wpAny_Constant_int ?_ | with_reducible refine Subscript_ ?_ | ((with_reducible show wpAny _ _ (eval (Expr.Name _ _) _) _ _ _); (first | (refine nameX_L (v := _) F (by (repeat (first | with_reducible assumption | with_reducible exact up_eq _ _ _ | refine (up_ne (by decide)).trans ?_ | exact rfl))) ?_ rfl rfl (by decide)) | (refine nameX_C (c := _) (o := _) (v := _) N rfl (by k_mem) (by assumption) ?_ rfl rfl (by decide)) | (refine r_glob G F (by k_is) ?_ rfl rfl (by decide)) | (refine r_boot G F (by boot_fast) (by k_is) (by decide) ?_ rfl rfl (by decide))))))
          refine r_item hD hj (by (first | lia | omega)) (by simp only [List.length_cons]; (first | lia | omega)) (by (first | lia | omega)) (fun t' => ?_) (by with_unfolding_all rfl)
          (repeat (first | with_reducible refine ne_int ?_ | with_reducible refine wpAny_truthy_bool ?_))
          refine split_bool (fun hc => ?_) (fun hc => ?_)
          · (repeat (first | with_reducible refine wpAny_execs_cons ?_ | with_reducible refine wpAny_Return_some ?_ | with_reducible refine wpAny_Constant_int ?_ | with_reducible refine wpAny_Constant_str ?_ | with_reducible refine Tuple_ ?_ | (with_reducible refine args_cons ?_ rfl) | (with_reducible refine args_nil ?_) | ((with_reducible show wpAny _ _ (newTuple _) _ _ _); (refine newTuple_N F N ?_ (by size_fits)); clear F N; intro h F N)))
            have e1 : clauseState cl W = .opn := by rw [hst]; show (if _ then _ else _) = _; rw [if_pos (List.any_eq_true.mpr ⟨_, hmem, by simpa using hc⟩)]
            exact ret _ _ _ _ (hs₁.set _ _) F.keep (by rw [e1]; exact ⟨_, N.get (List.mem_cons_self ..), rfl, _, rfl⟩)
          · (repeat (first | with_reducible refine wpAny_execs_nil ?_))
            refine ⟨_, F, fun o e => e, fun o e => e, hs₁.set _ _, (up_ne (by decide)).trans hm, N, ?_⟩
            rw [htake, List.any_append, hany]
            simpa using hc
        · rintro m s₁ ⟨hs₁, hm, N, hany⟩ F
          rw [hys, List.take_length] at hany
          have e1 : clauseState cl W = .unit u := by rw [hst]; show (if _ then _ else _) = _; rw [if_neg (by rw [hany]; simp)]
          show wpAny _ _ _ _ _ _
          (repeat (first | with_reducible refine wpAny_execs_cons ?_ | with_reducible refine wpAny_Return_some ?_ | with_reducible refine wpAny_Constant_int ?_ | with_reducible refine wpAny_Constant_str ?_ | with_reducible refine Subscript_ ?_ | with_reducible refine Tuple_ ?_ | ((with_reducible show wpAny _ _ (eval (Expr.Name _ _) _) _ _ _); (first | (refine nameX_L (v := _) F (by (repeat (first | with_reducible assumption | with_reducible exact up_eq _ _ _ | refine (up_ne (by decide)).trans ?_ | exact rfl))) ?_ rfl rfl (by decide)) | (refine nameX_C (c := _) (o := _) (v := _) N rfl (by k_mem) (by assumption) ?_ rfl rfl (by decide)) | (refine r_glob G F (by k_is) ?_ rfl rfl (by decide)) | (refine r_boot G F (by boot_fast) (by k_is) (by decide) ?_ rfl rfl (by decide)))) | (with_reducible refine args_cons ?_ rfl)))
          refine r_item ⟨_, N.get (List.mem_cons_self ..), rfl, q, rfl⟩ hj (by (first | lia | omega)) (by simp only [List.length_cons]; (first | lia | omega)) (by (first | lia | omega)) (fun t' => ?_) (by with_unfolding_all rfl)
          (repeat (first | (with_reducible refine args_nil ?_) | ((with_reducible show wpAny _ _ (newTuple _) _ _ _); (refine newTuple_N F N ?_ (by size_fits)); clear F N; intro h F N)))
          exact ret _ _ _ _ (hs₁.set _ _) F.keep (by rw [e1]; exact ⟨_, N.get (List.mem_cons_self ..), rfl, _, rfl⟩)
end
end Mine
namespace Mine
section
variable {prog : Program} {w : World} {A : Around} {E : Value → Shared → Prop} {s : Shared} {p : Program} {loose : List Str} {mg mb : Str → Option Value}

theorem tag_ne_true (c : CS) : (csTag c != Str.ofString "true") = !c.isTru := by
  cases c <;> (simp only [csTag, CS.isTru]; decide)
def CS.isFls : CS → Bool
  | .fls => true
  | _ => false
def CS.isUnit : CS → Bool
  | .unit _ => true
  | _ => false
theorem tag_eq_false (c : CS) : (csTag c == Str.ofString "false") = c.isFls := by
  cases c <;> (simp only [csTag, CS.isFls]; decide)
theorem tag_eq_unit (c : CS) : (csTag c == Str.ofString "unit") = c.isUnit := by
  cases c <;> (simp only [csTag, CS.isUnit]; decide)

/-- a formula within the law's sizes -/
structure Small (n : Nat) (css : List (List Int)) : Prop where
  val : ValidCs n css
  n3 : n ≤ 3
  len : css.length ≤ 1000
  each : ∀ c ∈ css, c.length ≤ 1000

theorem ll_at {h : Heap} {vs : List Value} {css : List (List Int)} (hp : Paired (IsI h) vs css) {i : Nat} {v : Value} (hv : vs.toArray[i]? = some v) :
    ∃ b its c, v = .ref b ∧ css[i]? = some c ∧ c ∈ css ∧ h.IsList b its.toArray ∧ IntsAre its c := by
  obtain ⟨c, hc, b, its, e, hl, hi⟩ := paired_at hp (show vs[i]? = some v by simpa using hv)
  exact ⟨b, its, c, e, hc, List.mem_of_getElem? hc, hl, hi⟩
theorem take_at {α : Type} {l : List α} {i : Nat} {c : α} (h : l[i]? = some c) : l.take (i + 1) = l.take i ++ [c] := by
  rw [List.take_add_one, h]; rfl

theorem satisfies_ok {Q : Value → Shared → Prop} {v a : Addr} {vs : List Value} {W : List Int} {css : List (List Int)} {n : Nat}
    (G : Gd (hd.heap_39 w.params) p loose mg mb s.heap) (R : Room A 3) (hl : s.heap.IsList v vs.toArray) (hi : IntsAre vs W) (hW : W.length = n + 1) (hcs : IsLL s.heap a css) (S : Small n css)
    (ret : ∀ s', Same s s' → Keep s.heap s'.heap → Q (.bool (satisfies W css)) s') :
    wpAny (model prog w) A (call (.ref 47) [.ref v, .ref a]) Q E s := by
  obtain ⟨cvs, hca, hcp⟩ := hcs
  have hlen : cvs.toArray.size = css.length := by simp [paired_len hcp]
  refine enter (g := s.heap) (binds := [("values", .ref v), ("clauses", .ref a)]) G (Keep.refl _) (Nat.le_refl _) (by k_is) (by k_is) R.room (BindsTo.of_eq rfl) (locs rfl) ?_ rfl rfl rfl (by decide)
  intro L h tk F hk hL
  have N : News s.heap L h [] := News.nil
  have haL : a ≠ L := Nat.ne_of_lt (Nat.lt_of_lt_of_le (list_lt hca) hL)
  (repeat (first | with_reducible refine wpAny_execs_cons ?_))
  refine wpAny_For ?_ (fun _ => rfl)
  (repeat (first | ((with_reducible show wpAny _ _ (eval (Expr.Name _ _) _) _ _ _); (first | (refine nameX_L (v := _) F (by (repeat (first | with_reducible assumption | with_reducible exact up_eq _ _ _ | refine (up_ne (by decide)).trans ?_ | exact rfl))) ?_ rfl rfl (by decide)) | (refine nameX_C (c := _) (o := _) (v := _) N rfl (by k_mem) (by assumption) ?_ rfl rfl (by decide)) | (refine r_glob G F (by k_is) ?_ rfl rfl (by decide)) | (refine r_boot G F (by boot_fast) (by k_is) (by decide) ?_ rfl rfl (by decide))))))
  refine for_list (items := cvs.toArray) (fun i m s' => Same s s' ∧ m "values" = some (.ref v) ∧ (css.take i).all (fun c => (clauseState c W).isTru) = true)
    R.handled (stays_list F.keep hca) haL rfl rfl F ?_ ?_ ?_ ?_
  · intro h' tk' k
    exact ⟨Same.of _ _ _, rfl, by simp⟩
  · rintro i m s₁ h' tk' ⟨a, b, d⟩ k
    exact ⟨a.set _ _, b, d⟩
  · rintro i x m s₁ E' hx ⟨hs₁, hm, hall⟩ F - -
    obtain ⟨b, its, c, rfl, hc, hmem, hbl, hbi⟩ := ll_at hcp hx
    replace F : Fr s.heap L s₁.heap (up m "clause" (.ref b)) := F
    have N : News s.heap L s₁.heap [] := News.nil
    (repeat (first | with_reducible refine wpAny_execs_cons ?_ | with_reducible refine wpAny_If ?_ | (with_reducible refine wpAny_isTrue_Compare1 ?_ (by with_unfolding_all rfl)) | with_reducible refine Subscript_ ?_ | ((with_reducible show wpAny _ _ (eval (Expr.Name _ _) _) _ _ _); (first | (refine nameX_L (v := _) F (by (repeat (first | with_reducible assumption | with_reducible exact up_eq _ _ _ | refine (up_ne (by decide)).trans ?_ | exact rfl))) ?_ rfl rfl (by decide)) | (refine nameX_C (c := _) (o := _) (v := _) N rfl (by k_mem) (by assumption) ?_ rfl rfl (by decide)) | (refine r_glob G F (by k_is) ?_ rfl rfl (by decide)) | (refine r_boot G F (by boot_fast) (by k_is) (by decide) ?_ rfl rfl (by decide)))) | (with_reducible refine args_cons ?_ rfl) | (with_reducible refine args_nil ?_) | ((with_reducible show Keep _ _ ∧ _); refine And.intro F.keep ?_) | ((with_reducible show wpAny _ _ (callWith _ (Value.ref _) [] _ []) _ _ _); refine r_callf G (by k_is) ?_ rfl rfl) | (with_reducible refine Call_ ?_ rfl)))
    refine clause_state_ok (G.keeps F.keep) (R.deeper _) (stays_list F.keep hbl) hbi (stays_list F.keep hl) hi (S.val c hmem) hW S.n3 (S.each c hmem) (fun T t₁ t₂ s' sm kp hT => ?_)
    replace F := F.keeps kp
    replace N := N.grown kp
    (repeat (first | with_reducible refine wpAny_Constant_int ?_))
    refine r_tup (k := 0) hT rfl (by decide) ?_ (by with_unfolding_all rfl)
    (repeat (first | with_reducible refine wpAny_Constant_str ?_))
    refine ne_str ?_
    rw [tag_ne_true]
    (repeat (first | with_reducible refine wpAny_truthy_bool ?_))
    refine split_bool (fun hc' => ?_) (fun hc' => ?_)
    · (repeat (first | with_reducible refine wpAny_execs_cons ?_ | with_reducible refine wpAny_Return_some ?_ | with_reducible refine Constant_bool ?_))
      have e : satisfies W css = false := by
        unfold satisfies
        rw [List.all_eq_false]
        exact ⟨c, hmem, by simpa using hc'⟩
      rw [e] at ret
      exact ret _ ((hs₁.trans sm).set _ _) F.keep
    · (repeat (first | with_reducible refine wpAny_execs_nil ?_))
      refine ⟨_, F, fun o e => kp _ _ e, fun o e => kp _ _ e, (hs₁.trans sm).set _ _, (up_ne (by decide)).trans hm, ?_⟩
      rw [take_at hc, List.all_append, hall]
      simpa using hc'
  · rintro m s₁ ⟨hs₁, hm, hall⟩ F
    rw [hlen, List.take_length] at hall
    have N : News s.heap L s₁.heap [] := News.nil
    show wpAny _ _ _ _ _ _
    (repeat (first | with_reducible refine wpAny_execs_cons ?_ | with_reducible refine wpAny_Return_some ?_ | with_reducible refine Constant_bool ?_))
    rw [show satisfies W css = true from hall] at ret
    exact ret _ (hs₁.set _ _) F.keep

theorem values_ok {Q : Value → Shared → Prop} {k n : Nat} {t u : Tok}
    (G : Gd (hd.heap_39 w.params) p loose mg mb s.heap) (R : Room A 1) (hn : n ≤ 3)
    (ret : ∀ D its s', Same s s' → Keep s.heap s'.heap → s'.heap.IsList D its.toArray → IntsAre its (valuesOf k n) → Q (.ref D) s') :
    wpAny (model prog w) A (call (.ref 28) [.int (k : Nat) t, .int (n : Nat) u]) Q E s := by
  refine enter (g := s.heap) (binds := [("k", .int (k : Nat) t), ("n", .int (n : Nat) u)]) G (Keep.refl _) (Nat.le_refl _) (by k_is) (by k_is) R.room (BindsTo.of_eq rfl) (locs rfl) ?_ rfl rfl rfl (by decide)
  intro L h tk F hk hL
  have N : News s.heap L h [] := News.nil
  (repeat (first | with_reducible refine wpAny_execs_cons ?_ | with_reducible refine wpAny_Constant_int ?_ | with_reducible refine List_ ?_ | ((with_reducible show wpAny _ _ (eval (Expr.Name _ _) _) _ _ _); (first | (refine nameX_L (v := _) F (by (repeat (first | with_reducible assumption | with_reducible exact up_eq _ _ _ | refine (up_ne (by decide)).trans ?_ | exact rfl))) ?_ rfl rfl (by decide)) | (refine nameX_C (c := _) (o := _) (v := _) N rfl (by k_mem) (by assumption) ?_ rfl rfl (by decide)) | (refine r_glob G F (by k_is) ?_ rfl rfl (by decide)) | (refine r_boot G F (by boot_fast) (by k_is) (by decide) ?_ rfl rfl (by decide)))) | (with_reducible refine args_cons ?_ rfl) | (with_reducible refine args_nil ?_) | ((with_reducible show wpAny _ _ (newList _) _ _ _); (refine newList_K F N ?_ (by size_fits)); clear F N; intro D h F N hDlt) | (with_reducible refine wpAny_Assign_Name ?_ (by with_unfolding_all rfl)) | ((with_reducible show wpAny _ _ (storeName _ _ _) _ _ _); (refine r_store F N ?_ rfl rfl; clear F N; intro h tk F N hg))))
  refine wpAny_For ?_ (fun _ => rfl)
  (repeat (first | with_reducible refine wpAny_BinOp ?_ | with_reducible refine wpAny_Constant_int ?_ | with_reducible refine add_int ?_ | ((with_reducible show wpAny _ _ (eval (Expr.Name _ _) _) _ _ _); (first | (refine nameX_L (v := _) F (by (repeat (first | with_reducible assumption | with_reducible exact up_eq _ _ _ | refine (up_ne (by decide)).trans ?_ | exact rfl))) ?_ rfl rfl (by decide)) | (refine nameX_C (c := _) (o := _) (v := _) N rfl (by k_mem) (by assumption) ?_ rfl rfl (by decide)) | (refine r_glob G F (by k_is) ?_ rfl rfl (by decide)) | (refine r_boot G F (by boot_fast) (by k_is) (by decide) ?_ rfl rfl (by decide)))) | (with_reducible refine args_cons ?_ rfl) | (with_reducible refine args_nil ?_) | ((with_reducible show wpAny _ _ (callWith _ (Value.type _) [] _ []) _ _ _); refine Pv.callWith_type1 ?_ rfl rfl) | (with_reducible refine Call_ ?_ rfl)))
  (refine r_range2 F N ?_; clear F N; intro r h tk t0 u0 v0 F N hr hkr)
  have hD0 : ∀ p ∈ ([] : List (Addr × Obj)), p.1 ≠ D := fun _ h => nomatch h
  have hnI : D ≠ h.objs.size := news_ne N _ (List.mem_cons_self ..)
  have hIL := ne_frame F
  have hIg := fresh_of F.keep
  refine for_range (n := n) (fun i m s' => Same s s' ∧ m "values" = some (.ref D) ∧ (∃ t, m "rest" = some (.int ((k / 2 ^ i : Nat) : Int) t)) ∧
      ∃ its q ns, News s.heap L s'.heap [(D, listOf its.toArray q)] ∧ IntsAre its ns ∧ ns.length = i + 1 ∧ ns ++ bitsOf (k / 2 ^ i) (n - i) = valuesOf k n)
    R.handled hr (sm1 (Nat.le_trans hn (by decide))) (sz1 n) rfl rfl F ?_ ?_ ?_ ?_
  · intro h' tk' kp
    exact ⟨Same.of _ _ _, (up_ne (by decide)).trans (up_eq _ _ _), ⟨_, by simpa using up_eq _ _ _⟩, _, _, [0], N.grown kp, IntsAre.cons _ _ IntsAre.nil, rfl, by simp [valuesOf]⟩
  · rintro i m s₁ h' tk' ⟨a, b, c, its, q, ns, N', d⟩ kp
    exact ⟨a.set _ _, b, c, its, q, ns, news_move N' (fun p hp => by
      rw [List.mem_singleton.mp hp]; exact hnI) kp, d⟩
  · rintro i t' m s₁ E' hi ⟨hs₁, hm, ⟨tr, hmr⟩, its, q, ns, N, hits, hnl, hns⟩ F ⟨oI, hoI⟩
    replace F : Fr s.heap L s₁.heap (up m "v" (.int (1 + (i : Nat)) t')) := F
    replace N := news_cons N hoI hIL hIg
    have hb : bitsOf (k / 2 ^ i) (n - i) = (if k / 2 ^ i % 2 = 1 then 1 else -1) :: bitsOf (k / 2 ^ (i + 1)) (n - (i + 1)) := by
      obtain ⟨j, hj⟩ : ∃ j, n - i = j + 1 := ⟨n - i - 1, by (first | lia | omega)⟩
      rw [hj, bitsOf, show n - (i + 1) = j by (first | lia | omega), Nat.div_div_eq_div_mul, Nat.pow_succ]
    have hmod : Int.fmod ((k / 2 ^ i : Nat) : Int) 2 = ((k / 2 ^ i % 2 : Nat) : Int) := by rw [Int.fmod_eq_emod_of_nonneg _ (by (first | lia | omega))]; (first | lia | omega)
    have hdiv : Int.fdiv ((k / 2 ^ i : Nat) : Int) 2 = ((k / 2 ^ (i + 1) : Nat) : Int) := by
      rw [Int.fdiv_eq_ediv_of_nonneg _ (by (first | lia | omega)), Nat.pow_succ, ← Nat.div_div_eq_div_mul]; (first | lia | omega)
    have hsz : its.length ≤ 10000 := by rw [hits.length, hnl]; (first | lia | omega)
    have fin : ∀ (x : Int) (s' : Shared) (q' : Nat) (m' : Str → Option Value) (its' : List Value) (tx tr : Tok), x = (if k / 2 ^ i % 2 = 1 then 1 else -1) → Same s s' → Fr s.heap L s'.heap m' → m' "values" = some (.ref D) →
        m' "rest" = some (.int ((k / 2 ^ (i + 1) : Nat) : Int) tr) → its' = its ++ [.int x tx] → News s.heap L s'.heap [(h.objs.size, oI), (D, listOf its'.toArray q')] →
        ∃ m', Fr s.heap L s'.heap m' ∧ (∀ o, s₁.heap.get? h.objs.size = some o → s'.heap.get? h.objs.size = some o) ∧ Same s s' ∧ m' "values" = some (.ref D) ∧ (∃ t, m' "rest" = some (.int ((k / 2 ^ (i + 1) : Nat) : Int) t)) ∧
          ∃ its q ns, News s.heap L s'.heap [(D, listOf its.toArray q)] ∧ IntsAre its ns ∧ ns.length = i + 1 + 1 ∧ ns ++ bitsOf (k / 2 ^ (i + 1)) (n - (i + 1)) = valuesOf k n := by
      intro x s' q' m' its' tx tr hx hsm F' hm1 hm2 hits' N'
      subst hits'
      refine ⟨m', F', news_at N' (List.mem_cons_self ..) hoI, hsm, hm1, ⟨tr, hm2⟩, _, q', ns ++ [x], news_sub N' (fun p hp => List.mem_cons_of_mem _ hp), IntsAre.append hits (IntsAre.cons _ _ IntsAre.nil), by simp [hnl], ?_⟩
      rw [← hns, hb, hx, List.append_assoc]; rfl
    (repeat (first | with_reducible refine wpAny_execs_cons ?_ | with_reducible refine wpAny_If ?_ | (with_reducible refine wpAny_isTrue_Compare1 ?_ (by with_unfolding_all rfl)) | with_reducible refine wpAny_BinOp ?_ | with_reducible refine wpAny_Constant_int ?_ | ((with_reducible show wpAny _ _ (eval (Expr.Name _ _) _) _ _ _); (first | (refine nameX_L (v := _) F (by (repeat (first | with_reducible assumption | with_reducible exact up_eq _ _ _ | refine (up_ne (by decide)).trans ?_ | exact rfl))) ?_ rfl rfl (by decide)) | (refine nameX_C (c := _) (o := _) (v := _) N rfl (by k_mem) (by assumption) ?_ rfl rfl (by decide)) | (refine r_glob G F (by k_is) ?_ rfl rfl (by decide)) | (refine r_boot G F (by boot_fast) (by k_is) (by decide) ?_ rfl rfl (by decide))))))
    refine mod_int' (by decide) ?_
    rw [hmod]
    (repeat (first | with_reducible refine wpAny_Constant_int ?_ | with_reducible refine eq_int ?_ | with_reducible refine wpAny_truthy_bool ?_))
    refine split_bool (fun hc => ?_) (fun hc => ?_)
    · have hc' : k / 2 ^ i % 2 = 1 := by have : ((k / 2 ^ i % 2 : Nat) : Int) = 1 := by simpa using hc
                                         (first | lia | omega)
      (repeat (first | with_reducible refine wpAny_execs_cons ?_ | with_reducible refine wpAny_Constant_int ?_ | ((with_reducible show wpAny _ _ (eval (Expr.Name _ _) _) _ _ _); (first | (refine nameX_L (v := _) F (by (repeat (first | with_reducible assumption | with_reducible exact up_eq _ _ _ | refine (up_ne (by decide)).trans ?_ | exact rfl))) ?_ rfl rfl (by decide)) | (refine nameX_C (c := _) (o := _) (v := _) N rfl (by k_mem) (by assumption) ?_ rfl rfl (by decide)) | (refine r_glob G F (by k_is) ?_ rfl rfl (by decide)) | (refine r_boot G F (by boot_fast) (by k_is) (by decide) ?_ rfl rfl (by decide)))) | (with_reducible refine args_cons ?_ rfl) | (with_reducible refine args_nil ?_) | ((with_reducible show wpAny _ _ (callWith _ (Value.builtin _) (_ :: _) _ []) _ _ _); refine callWith_method1 ?_ rfl rfl) | (with_reducible refine wpAny_Expr ?_ (by with_unfolding_all rfl) (by with_unfolding_all rfl)) | (with_reducible refine MethodCall_ (pl := _) ?_ (by with_unfolding_all rfl)) | ((with_reducible show wpAny _ _ (getMethod (Value.ref _) (Str.ofString "append") _) _ _ _); refine Calls.getMethod_list_append (o := _) (N.get (by k_mem)) rfl rfl ?_)))
      refine r_append F N (Upd.tail (Ne.symm hnI) (Upd.head (by simp))) hsz (fun h₂ F N hsb => ?_)
      (repeat (first | with_reducible refine wpAny_execs_cons ?_ | with_reducible refine wpAny_execs_nil ?_ | with_reducible refine wpAny_BinOp ?_ | with_reducible refine wpAny_Constant_int ?_ | ((with_reducible show wpAny _ _ (eval (Expr.Name _ _) _) _ _ _); (first | (refine nameX_L (v := _) F (by (repeat (first | with_reducible assumption | with_reducible exact up_eq _ _ _ | refine (up_ne (by decide)).trans ?_ | exact rfl))) ?_ rfl rfl (by decide)) | (refine nameX_C (c := _) (o := _) (v := _) N rfl (by k_mem) (by assumption) ?_ rfl rfl (by decide)) | (refine r_glob G F (by k_is) ?_ rfl rfl (by decide)) | (refine r_boot G F (by boot_fast) (by k_is) (by decide) ?_ rfl rfl (by decide)))) | (with_reducible refine wpAny_Assign_Name ?_ (by with_unfolding_all rfl))))
      refine floordiv_int (by decide) ?_ (Or.inl (PyProof.noPylong_small (by (first | lia | omega))))
      rw [hdiv]
      (repeat (first | with_reducible refine wpAny_execs_nil ?_ | ((with_reducible show wpAny _ _ (storeName _ _ _) _ _ _); (refine r_store F N ?_ rfl rfl; clear F N; intro h tk F N hg))))
      exact fin 1 _ _ _ _ _ _ (by rw [if_pos hc']) (hs₁.set _ _) F ((up_ne (by decide)).trans ((up_ne (by decide)).trans hm)) (up_eq _ _ _) rfl N
    · have hc' : ¬ (k / 2 ^ i % 2 = 1) := by have : ¬ ((k / 2 ^ i % 2 : Nat) : Int) = 1 := by simpa using hc
                                             (first | lia | omega)
      (repeat (first | with_reducible refine wpAny_execs_cons ?_ | with_reducible refine UnaryOp_ ?_ | with_reducible refine wpAny_Constant_int ?_ | with_reducible refine P.neg_int ?_ | ((with_reducible show wpAny _ _ (eval (Expr.Name _ _) _) _ _ _); (first | (refine nameX_L (v := _) F (by (repeat (first | with_reducible assumption | with_reducible exact up_eq _ _ _ | refine (up_ne (by decide)).trans ?_ | exact rfl))) ?_ rfl rfl (by decide)) | (refine nameX_C (c := _) (o := _) (v := _) N rfl (by k_mem) (by assumption) ?_ rfl rfl (by decide)) | (refine r_glob G F (by k_is) ?_ rfl rfl (by decide)) | (refine r_boot G F (by boot_fast) (by k_is) (by decide) ?_ rfl rfl (by decide)))) | (with_reducible refine args_cons ?_ rfl) | (with_reducible refine args_nil ?_) | ((with_reducible show wpAny _ _ (callWith _ (Value.builtin _) (_ :: _) _ []) _ _ _); refine callWith_method1 ?_ rfl rfl) | (with_reducible refine wpAny_Expr ?_ (by with_unfolding_all rfl) (by with_unfolding_all rfl)) | (with_reducible refine MethodCall_ (pl := _) ?_ (by with_unfolding_all rfl)) | ((with_reducible show wpAny _ _ (getMethod (Value.ref _) (Str.ofString "append") _) _ _ _); refine Calls.getMethod_list_append (o := _) (N.get (by k_mem)) rfl rfl ?_)))
      refine r_append F N (Upd.tail (Ne.symm hnI) (Upd.head (by simp))) hsz (fun h₂ F N hsb => ?_)
      (repeat (first | with_reducible refine wpAny_execs_cons ?_ | with_reducible refine wpAny_execs_nil ?_ | with_reducible refine wpAny_BinOp ?_ | with_reducible refine wpAny_Constant_int ?_ | ((with_reducible show wpAny _ _ (eval (Expr.Name _ _) _) _ _ _); (first | (refine nameX_L (v := _) F (by (repeat (first | with_reducible assumption | with_reducible exact up_eq _ _ _ | refine (up_ne (by decide)).trans ?_ | exact rfl))) ?_ rfl rfl (by decide)) | (refine nameX_C (c := _) (o := _) (v := _) N rfl (by k_mem) (by assumption) ?_ rfl rfl (by decide)) | (refine r_glob G F (by k_is) ?_ rfl rfl (by decide)) | (refine r_boot G F (by boot_fast) (by k_is) (by decide) ?_ rfl rfl (by decide)))) | (with_reducible refine wpAny_Assign_Name ?_ (by with_unfolding_all rfl))))
      refine floordiv_int (by decide) ?_ (Or.inl (PyProof.noPylong_small (by (first | lia | omega))))
      rw [hdiv]
      (repeat (first | with_reducible refine wpAny_execs_nil ?_ | ((with_reducible show wpAny _ _ (storeName _ _ _) _ _ _); (refine r_store F N ?_ rfl rfl; clear F N; intro h tk F N hg))))
      exact fin (-1) _ _ _ _ _ _ (by rw [if_neg hc']) (hs₁.set _ _) F ((up_ne (by decide)).trans ((up_ne (by decide)).trans hm)) (up_eq _ _ _) rfl N
  · rintro m s₁ ⟨hs₁, hm, -, its, q, ns, N, hits, hnl, hns⟩ F
    rw [Nat.sub_self, show bitsOf (k / 2 ^ n) 0 = [] from rfl, List.append_nil] at hns
    subst hns
    show wpAny _ _ _ _ _ _
    (repeat (first | with_reducible refine wpAny_execs_cons ?_ | with_reducible refine wpAny_Return_some ?_ | ((with_reducible show wpAny _ _ (eval (Expr.Name _ _) _) _ _ _); (first | (refine nameX_L (v := _) F (by (repeat (first | with_reducible assumption | with_reducible exact up_eq _ _ _ | refine (up_ne (by decide)).trans ?_ | exact rfl))) ?_ rfl rfl (by decide)) | (refine nameX_C (c := _) (o := _) (v := _) N rfl (by k_mem) (by assumption) ?_ rfl rfl (by decide)) | (refine r_glob G F (by k_is) ?_ rfl rfl (by decide)) | (refine r_boot G F (by boot_fast) (by k_is) (by decide) ?_ rfl rfl (by decide))))))
    exact ret _ _ _ (hs₁.set _ _) F.keep ⟨_, N.get (List.mem_cons_self ..), rfl, _, rfl⟩ hits

theorem truth_table_ok {Q : Value → Shared → Prop} {a : Addr} {css : List (List Int)} {n : Nat} {t : Tok}
    (G : Gd (hd.heap_39 w.params) p loose mg mb s.heap) (R : Room A 4) (hcs : IsLL s.heap a css) (S : Small n css)
    (ret : ∀ s', Same s s' → Keep s.heap s'.heap → Q (.bool (truthTable css n)) s') :
    wpAny (model prog w) A (call (.ref 54) [.ref a, .int (n : Nat) t]) Q E s := by
  have hn3 := S.n3
  refine enter (g := s.heap) (binds := [("clauses", .ref a), ("n", .int (n : Nat) t)]) G (Keep.refl _) (Nat.le_refl _) (by k_is) (by k_is) R.room (BindsTo.of_eq rfl) (locs rfl) ?_ rfl rfl rfl (by decide)
  intro L h tk F hk hL
  have N : News s.heap L h [] := News.nil
  have h8 : (2 : Nat) ^ n ≤ 8 := Nat.pow_le_pow_right (by decide) hn3
  have hpw : (2 : Int) ^ ((n : Nat) : Int).toNat = ((2 ^ n : Nat) : Int) := by simp
  have hb1 : ((2 ^ n : Nat) : Int) ≤ 8 := Int.ofNat_le.mpr h8
  have hb0 : 0 ≤ ((2 ^ n : Nat) : Int) := Int.natCast_nonneg _
  (repeat (first | with_reducible refine wpAny_execs_cons ?_))
  refine wpAny_For ?_ (fun _ => rfl)
  (repeat (first | with_reducible refine wpAny_BinOp ?_ | with_reducible refine wpAny_Constant_int ?_ | ((with_reducible show wpAny _ _ (eval (Expr.Name _ _) _) _ _ _); (first | (refine nameX_L (v := _) F (by (repeat (first | with_reducible assumption | with_reducible exact up_eq _ _ _ | refine (up_ne (by decide)).trans ?_ | exact rfl))) ?_ rfl rfl (by decide)) | (refine nameX_C (c := _) (o := _) (v := _) N rfl (by k_mem) (by assumption) ?_ rfl rfl (by decide)) | (refine r_glob G F (by k_is) ?_ rfl rfl (by decide)) | (refine r_boot G F (by boot_fast) (by k_is) (by decide) ?_ rfl rfl (by decide)))) | (with_reducible refine args_cons ?_ rfl) | ((with_reducible show wpAny _ _ (callWith _ (Value.type _) [] _ []) _ _ _); refine Pv.callWith_type1 ?_ rfl rfl) | (with_reducible refine Call_ ?_ rfl)))
  refine pow_int_small (by (first | lia | omega)) (by (first | lia | omega)) (by decide) ?_
  rw [hpw]
  (repeat (first | (with_reducible refine args_nil ?_)))
  (refine r_range1 F N ?_; clear F N; intro r h tk t0 u0 v0 F N hr hkr)
  refine for_range (n := 2 ^ n) (fun i m s' => Same s s' ∧ m "clauses" = some (.ref a) ∧ (∃ t, m "n" = some (.int (n : Nat) t)) ∧ (List.range i).any (fun k => satisfies (valuesOf k n) css) = false)
    R.handled hr (sm0 (Nat.le_trans h8 (by decide))) (sz0 _) rfl rfl F ?_ ?_ ?_ ?_
  · intro h' tk' kp
    exact ⟨Same.of _ _ _, rfl, ⟨_, rfl⟩, by simp⟩
  · rintro i m s₁ h' tk' ⟨a, b, c, d⟩ kp
    exact ⟨a.set _ _, b, c, d⟩
  · rintro i t' m s₁ E' hi ⟨hs₁, hm, ⟨tn, hmn⟩, hany⟩ F -
    replace F : Fr s.heap L s₁.heap (up m "k" (.int (0 + (i : Nat)) t')) := F
    have N : News s.heap L s₁.heap [] := News.nil
    have e0 : (0 : Int) + (i : Nat) = (i : Nat) := by (first | lia | omega)
    rw [e0] at F
    (repeat (first | with_reducible refine wpAny_execs_cons ?_ | with_reducible refine wpAny_If ?_ | ((with_reducible show wpAny _ _ (eval (Expr.Name _ _) _) _ _ _); (first | (refine nameX_L (v := _) F (by (repeat (first | with_reducible assumption | with_reducible exact up_eq _ _ _ | refine (up_ne (by decide)).trans ?_ | exact rfl))) ?_ rfl rfl (by decide)) | (refine nameX_C (c := _) (o := _) (v := _) N rfl (by k_mem) (by assumption) ?_ rfl rfl (by decide)) | (refine r_glob G F (by k_is) ?_ rfl rfl (by decide)) | (refine r_boot G F (by boot_fast) (by k_is) (by decide) ?_ rfl rfl (by decide)))) | (with_reducible refine args_cons ?_ rfl) | (with_reducible refine args_nil ?_) | ((with_reducible show Keep _ _ ∧ _); refine And.intro F.keep ?_) | ((with_reducible show wpAny _ _ (callWith _ (Value.ref _) [] _ []) _ _ _); refine r_callf G (by k_is) ?_ rfl rfl) | (with_reducible refine Call_ ?_ rfl) | (with_reducible refine isTrue_plain ?_ (by with_unfolding_all rfl))))
    refine values_ok (G.keeps F.keep) ((R.less (by decide)).deeper _) hn3 (fun D its s' sm kp hD hits => ?_)
    replace F := F.keeps kp
    replace N := N.grown kp
    (repeat (first | ((with_reducible show wpAny _ _ (eval (Expr.Name _ _) _) _ _ _); (first | (refine nameX_L (v := _) F (by (repeat (first | with_reducible assumption | with_reducible exact up_eq _ _ _ | refine (up_ne (by decide)).trans ?_ | exact rfl))) ?_ rfl rfl (by decide)) | (refine nameX_C (c := _) (o := _) (v := _) N rfl (by k_mem) (by assumption) ?_ rfl rfl (by decide)) | (refine r_glob G F (by k_is) ?_ rfl rfl (by decide)) | (refine r_boot G F (by boot_fast) (by k_is) (by decide) ?_ rfl rfl (by decide)))) | (with_reducible refine args_cons ?_ rfl) | (with_reducible refine args_nil ?_) | ((with_reducible show Keep _ _ ∧ _); refine And.intro F.keep ?_)))
    refine satisfies_ok (G.keeps F.keep) (R.deeper _) hD hits (by simp [valuesOf, bitsOf_length]) (hcs.keep F.keep) S (fun s₂ sm₂ kp₂ => ?_)
    replace F := F.keeps kp₂
    replace N := N.grown kp₂
    (repeat (first | with_reducible refine wpAny_truthy_bool ?_))
    refine split_bool (fun hc => ?_) (fun hc => ?_)
    · (repeat (first | with_reducible refine wpAny_execs_cons ?_ | with_reducible refine wpAny_Return_some ?_ | with_reducible refine Constant_bool ?_))
      have e : truthTable css n = true := by
        unfold truthTable
        exact List.any_eq_true.mpr ⟨i, List.mem_range.mpr hi, hc⟩
      rw [e] at ret
      exact ret _ (((hs₁.trans sm).trans sm₂).set _ _) F.keep
    · (repeat (first | with_reducible refine wpAny_execs_nil ?_))
      refine ⟨_, F, fun o e => kp₂ _ _ (kp _ _ e), ((hs₁.trans sm).trans sm₂).set _ _, (up_ne (by decide)).trans hm, ⟨tn, (up_ne (by decide)).trans hmn⟩, ?_⟩
      rw [List.range_succ, List.any_append, hany]
      simpa using hc
  · rintro m s₁ ⟨hs₁, hm, -, hany⟩ F
    have N : News s.heap L s₁.heap [] := News.nil
    show wpAny _ _ _ _ _ _
    (repeat (first | with_reducible refine wpAny_execs_cons ?_ | with_reducible refine wpAny_Return_some ?_ | with_reducible refine Constant_bool ?_))
    rw [show truthTable css n = false from hany] at ret
    exact ret _ (hs₁.set _ _) F.keep
end
end Mine
namespace Mine
/-- a Trail's own names -/
abbrev tEs (P : Params) (t₁ t₂ t₃ t₄ t₅ : Tok) (n : Int) (aW aO aM : Addr) : List DictEntry :=
  [⟨PyData.keyHash P "n", .str "n" t₁, .int n t₅⟩, ⟨PyData.keyHash P "worths", .str "worths" t₂, .ref aW⟩, ⟨PyData.keyHash P "order", .str "order" t₃, .ref aO⟩, ⟨PyData.keyHash P "marks", .str "marks" t₄, .ref aM⟩]
def TrailAt (P : Params) (h : Heap) (x : Addr) (n : Nat) (aW aO aM : Addr) : Prop :=
  ∃ dx t₁ t₂ t₃ t₄ t₅, h.get? x = some (instObj 120 dx) ∧ h.get? dx = some (dictOf (tEs P t₁ t₂ t₃ t₄ t₅ (n : Nat) aW aO aM) 4)
theorem TrailAt.keep {P : Params} {h h' : Heap} {x : Addr} {n : Nat} {aW aO aM : Addr} (T : TrailAt P h x n aW aO aM) (k : Keep h h') : TrailAt P h' x n aW aO aM :=
  let ⟨dx, t₁, t₂, t₃, t₄, t₅, a, b⟩ := T; ⟨dx, t₁, t₂, t₃, t₄, t₅, k _ _ a, k _ _ b⟩
/-- lists of ints lie apart from it -/
theorem TrailAt.hid {P : Params} {h : Heap} {x : Addr} {n : Nat} {aW aO aM : Addr} {as : List Addr} (T : TrailAt P h x n aW aO aM) (ha : ∀ a ∈ as, ∃ ns, LsAt h a ns) : TrailAt P (hideAll h as) x n aW aO aM := by
  obtain ⟨dx, t₁, t₂, t₃, t₄, t₅, a, b⟩ := T
  refine ⟨dx, t₁, t₂, t₃, t₄, t₅, hideAll_get as a fun hm => ?_, hideAll_get as b fun hm => ?_⟩
  · obtain ⟨ns, vs, q, e, _⟩ := ha _ hm
    rw [a] at e; cases congrArg Obj.data (Option.some.inj e)
  · obtain ⟨ns, vs, q, e, _⟩ := ha _ hm
    rw [b] at e; cases congrArg Obj.data (Option.some.inj e)

theorem ll_hid {h : Heap} {a : Addr} {css : List (List Int)} {as : List Addr} (x : IsLL h a css) (hn : ∀ b ∈ as, b ≠ a) (hn' : ∀ b ∈ as, ∀ vs, h.IsList a vs → .ref b ∉ vs.toList) : IsLL (hideAll h as) a css := by
  obtain ⟨vs, hl, hp⟩ := x
  have ho := hn' 
  refine ⟨vs, hl.at fun o e => hideAll_get as e fun hm => hn a hm rfl, ?_⟩
  have key : ∀ {vs : List Value} {css : List (List Int)}, Paired (IsI h) vs css → (∀ b ∈ as, Value.ref b ∉ vs) → Paired (IsI (hideAll h as)) vs css := by
    intro vs css hp
    induction hp with
    | nil => intro _; exact .nil
    | cons r t ih =>
      intro hq
      obtain ⟨b, its, e, hl, hi⟩ := r
      refine .cons ⟨b, its, e, hl.at fun o e' => hideAll_get as e' fun hm => hq b hm (by rw [e]; exact List.mem_cons_self ..), hi⟩ (ih fun b hb hm => hq b hb (List.mem_cons_of_mem _ hm))
  exact key hp fun b hb hm => hn' b hb _ hl (by simpa using hm)

section
variable {prog : Program} {w : World} {A : Around} {E : Value → Shared → Prop} {s : Shared} {p : Program} {loose : List Str} {mg mb : Str → Option Value}

theorem assign_ok {Q : Value → Shared → Prop} {x aW aO aM : Addr} {W O : List Int} {n : Nat} {lit : Int} {t : Tok}
    (G : Gd (hd.heap_39 w.params) p loose mg mb (hideAll s.heap [aW, aO])) (R : Room A 1) (T : TrailAt w.params s.heap x n aW aO aM) (hWO : aW ≠ aO) (hW : LsAt s.heap aW W) (hO : LsAt s.heap aO O)
    (hv : Valid n lit) (hlen : W.length = n + 1) (hn : n ≤ 3) (hol : O.length ≤ 1000)
    (ret : ∀ s', Same s s' → Keep (hideAll s.heap [aW, aO]) s'.heap → LsAt s'.heap aW (setW W lit) → LsAt s'.heap aO (O ++ [lit]) → Q .none s') :
    wpAny (model prog w) A (call (.ref 82) [.ref x, .int lit t]) Q E s := by
  have T' := T.hid (as := [aW, aO]) (fun a ha => by
    rcases List.mem_cons.mp ha with q | q
    · exact ⟨W, q ▸ hW⟩
    · exact ⟨O, List.mem_singleton.mp q ▸ hO⟩)
  obtain ⟨dx, t₁, t₂, t₃, t₄, t₅, hx, hdx⟩ := T'
  obtain ⟨vW, qW, eW, iW⟩ := hW
  obtain ⟨vO, qO, eO, iO⟩ := hO
  obtain ⟨hv1, hv2⟩ := hv
  refine enter (g := hideAll s.heap [aW, aO]) (binds := [("self", .ref x), ("lit", .int lit t)]) G (keep_hide _) (Nat.le_of_eq (hideAll_size _ _)) (by k_is) (by k_is) R.room (BindsTo.of_eq rfl) (locs rfl) ?_ rfl rfl rfl (by decide)
  intro L h tk F hk hL
  have N : News (hideAll s.heap [aW, aO]) L h [(aW, listOf vW.toArray qW), (aO, listOf vO.toArray qO)] :=
    news_cons (news_cons News.nil (hk _ _ eO) (Nat.ne_of_lt (Nat.lt_of_lt_of_le (Heap.lt_size eO) hL)) (hideAll_none _ (by simp))) (hk _ _ eW) (Nat.ne_of_lt (Nat.lt_of_lt_of_le (Heap.lt_size eW) hL)) (hideAll_none _ (by simp))
  (repeat (first | with_reducible refine wpAny_execs_cons ?_ | with_reducible refine wpAny_If ?_ | (with_reducible refine wpAny_isTrue_Compare1 ?_ (by with_unfolding_all rfl)) | with_reducible refine wpAny_Constant_int ?_ | with_reducible refine gt_int ?_ | with_reducible refine wpAny_truthy_bool ?_ | ((with_reducible show wpAny _ _ (eval (Expr.Name _ _) _) _ _ _); (first | (refine nameX_L (v := _) F (by (repeat (first | with_reducible assumption | with_reducible exact up_eq _ _ _ | refine (up_ne (by decide)).trans ?_ | exact rfl))) ?_ rfl rfl (by decide)) | (refine nameX_C (c := _) (o := _) (v := _) N rfl (by k_mem) (by assumption) ?_ rfl rfl (by decide)) | (refine r_glob G F (by k_is) ?_ rfl rfl (by decide)) | (refine r_boot G F (by boot_fast) (by k_is) (by decide) ?_ rfl rfl (by decide))))))
  refine split_bool (fun hc => ?_) (fun hc => ?_)
  · have hc' : 0 < lit := by simpa using hc
    (repeat (first | with_reducible refine wpAny_execs_cons ?_ | with_reducible refine wpAny_Constant_int ?_ | ((with_reducible show wpAny _ _ (eval (Expr.Name _ _) _) _ _ _); (first | (refine nameX_L (v := _) F (by (repeat (first | with_reducible assumption | with_reducible exact up_eq _ _ _ | refine (up_ne (by decide)).trans ?_ | exact rfl))) ?_ rfl rfl (by decide)) | (refine nameX_C (c := _) (o := _) (v := _) N rfl (by k_mem) (by assumption) ?_ rfl rfl (by decide)) | (refine r_glob G F (by k_is) ?_ rfl rfl (by decide)) | (refine r_boot G F (by boot_fast) (by k_is) (by decide) ?_ rfl rfl (by decide)))) | (with_reducible refine wpAny_Assign_Subscript ?_ (by with_unfolding_all rfl)) | (with_reducible refine Attribute_any_ ?_ (by with_unfolding_all rfl)) | ((with_reducible show wpAny _ _ (getAttr (Value.ref _) _ _) _ _ _); refine r_attr (attr := _) (v := _) G F (F.keep _ _ (by with_reducible assumption)) (by first | exact F.keep _ _ (by with_reducible assumption) | exact N.get (by k_mem)) (by k_is) (by k_is) (by k_is) (by k_is) (by k_get) rfl (fun tk => ?_))))
    refine r_set F N (Upd.head (by simpa using Ne.symm hWO)) iW (by (first | lia | omega)) (by (first | lia | omega)) (by (first | lia | omega)) (fun h F N iW => ?_)
    (repeat (first | with_reducible refine wpAny_execs_cons ?_ | with_reducible refine wpAny_execs_nil ?_ | ((with_reducible show wpAny _ _ (eval (Expr.Name _ _) _) _ _ _); (first | (refine nameX_L (v := _) F (by (repeat (first | with_reducible assumption | with_reducible exact up_eq _ _ _ | refine (up_ne (by decide)).trans ?_ | exact rfl))) ?_ rfl rfl (by decide)) | (refine nameX_C (c := _) (o := _) (v := _) N rfl (by k_mem) (by assumption) ?_ rfl rfl (by decide)) | (refine r_glob G F (by k_is) ?_ rfl rfl (by decide)) | (refine r_boot G F (by boot_fast) (by k_is) (by decide) ?_ rfl rfl (by decide)))) | (with_reducible refine args_cons ?_ rfl) | (with_reducible refine args_nil ?_) | ((with_reducible show wpAny _ _ (callWith _ (Value.builtin _) (_ :: _) _ []) _ _ _); refine callWith_method1 ?_ rfl rfl) | (with_reducible refine wpAny_Expr ?_ (by with_unfolding_all rfl) (by with_unfolding_all rfl)) | (with_reducible refine MethodCall_ (pl := _) ?_ (by with_unfolding_all rfl)) | ((with_reducible show wpAny _ _ (getMethod (Value.ref _) (Str.ofString "append") _) _ _ _); refine Calls.getMethod_list_append (o := _) (N.get (by k_mem)) rfl rfl ?_) | (with_reducible refine Attribute_any_ ?_ (by with_unfolding_all rfl)) | ((with_reducible show wpAny _ _ (getAttr (Value.ref _) _ _) _ _ _); refine r_attr (attr := _) (v := _) G F (F.keep _ _ (by with_reducible assumption)) (by first | exact F.keep _ _ (by with_reducible assumption) | exact N.get (by k_mem)) (by k_is) (by k_is) (by k_is) (by k_is) (by k_get) rfl (fun tk => ?_))))
    refine r_append F N (Upd.tail hWO (Upd.head (by simp))) (by rw [iO.length]; (first | lia | omega)) (fun h F N _ => ?_)
    (repeat (first | with_reducible refine wpAny_execs_nil ?_))
    refine ret _ (Same.of _ _ _) F.keep ⟨_, _, N.get (List.mem_cons_self ..), ?_⟩ ⟨_, _, N.get (List.mem_cons_of_mem _ (List.mem_cons_self ..)), IntsAre.append iO (IntsAre.cons _ _ IntsAre.nil)⟩
    unfold setW; rw [if_pos hc']; exact iW
  · have hc' : ¬ 0 < lit := by simpa using hc
    (repeat (first | with_reducible refine wpAny_execs_cons ?_ | with_reducible refine UnaryOp_ ?_ | with_reducible refine wpAny_Constant_int ?_ | with_reducible refine P.neg_int ?_ | ((with_reducible show wpAny _ _ (eval (Expr.Name _ _) _) _ _ _); (first | (refine nameX_L (v := _) F (by (repeat (first | with_reducible assumption | with_reducible exact up_eq _ _ _ | refine (up_ne (by decide)).trans ?_ | exact rfl))) ?_ rfl rfl (by decide)) | (refine nameX_C (c := _) (o := _) (v := _) N rfl (by k_mem) (by assumption) ?_ rfl rfl (by decide)) | (refine r_glob G F (by k_is) ?_ rfl rfl (by decide)) | (refine r_boot G F (by boot_fast) (by k_is) (by decide) ?_ rfl rfl (by decide)))) | (with_reducible refine wpAny_Assign_Subscript ?_ (by with_unfolding_all rfl)) | (with_reducible refine Attribute_any_ ?_ (by with_unfolding_all rfl)) | ((with_reducible show wpAny _ _ (getAttr (Value.ref _) _ _) _ _ _); refine r_attr (attr := _) (v := _) G F (F.keep _ _ (by with_reducible assumption)) (by first | exact F.keep _ _ (by with_reducible assumption) | exact N.get (by k_mem)) (by k_is) (by k_is) (by k_is) (by k_is) (by k_get) rfl (fun tk => ?_))))
    refine r_set F N (Upd.head (by simpa using Ne.symm hWO)) iW (by (first | lia | omega)) (by (first | lia | omega)) (by (first | lia | omega)) (fun h F N iW => ?_)
    (repeat (first | with_reducible refine wpAny_execs_cons ?_ | with_reducible refine wpAny_execs_nil ?_ | ((with_reducible show wpAny _ _ (eval (Expr.Name _ _) _) _ _ _); (first | (refine nameX_L (v := _) F (by (repeat (first | with_reducible assumption | with_reducible exact up_eq _ _ _ | refine (up_ne (by decide)).trans ?_ | exact rfl))) ?_ rfl rfl (by decide)) | (refine nameX_C (c := _) (o := _) (v := _) N rfl (by k_mem) (by assumption) ?_ rfl rfl (by decide)) | (refine r_glob G F (by k_is) ?_ rfl rfl (by decide)) | (refine r_boot G F (by boot_fast) (by k_is) (by decide) ?_ rfl rfl (by decide)))) | (with_reducible refine args_cons ?_ rfl) | (with_reducible refine args_nil ?_) | ((with_reducible show wpAny _ _ (callWith _ (Value.builtin _) (_ :: _) _ []) _ _ _); refine callWith_method1 ?_ rfl rfl) | (with_reducible refine wpAny_Expr ?_ (by with_unfolding_all rfl) (by with_unfolding_all rfl)) | (with_reducible refine MethodCall_ (pl := _) ?_ (by with_unfolding_all rfl)) | ((with_reducible show wpAny _ _ (getMethod (Value.ref _) (Str.ofString "append") _) _ _ _); refine Calls.getMethod_list_append (o := _) (N.get (by k_mem)) rfl rfl ?_) | (with_reducible refine Attribute_any_ ?_ (by with_unfolding_all rfl)) | ((with_reducible show wpAny _ _ (getAttr (Value.ref _) _ _) _ _ _); refine r_attr (attr := _) (v := _) G F (F.keep _ _ (by with_reducible assumption)) (by first | exact F.keep _ _ (by with_reducible assumption) | exact N.get (by k_mem)) (by k_is) (by k_is) (by k_is) (by k_is) (by k_get) rfl (fun tk => ?_))))
    refine r_append F N (Upd.tail hWO (Upd.head (by simp))) (by rw [iO.length]; (first | lia | omega)) (fun h F N _ => ?_)
    (repeat (first | with_reducible refine wpAny_execs_nil ?_))
    refine ret _ (Same.of _ _ _) F.keep ⟨_, _, N.get (List.mem_cons_self ..), ?_⟩ ⟨_, _, N.get (List.mem_cons_of_mem _ (List.mem_cons_self ..)), IntsAre.append iO (IntsAre.cons _ _ IntsAre.nil)⟩
    unfold setW; rw [if_neg hc']; exact iW
end
end Mine
namespace Mine
section
variable {prog : Program} {w : World} {A : Around} {E : Value → Shared → Prop} {s : Shared} {p : Program} {loose : List Str} {mg mb : Str → Option Value}

theorem drop_at {α : Type} {l : List α} {i : Nat} {c : α} (h : l[i]? = some c) : l.drop i = c :: l.drop (i + 1) := by
  obtain ⟨hi, e⟩ := List.getElem?_eq_some_iff.mp h
  rw [← e]; exact List.drop_eq_getElem_cons hi

theorem prop_fls {css : List (List Int)} {W O W₂ O₂ : List Int} {k : Nat} (h : roundF css W O false = (W₂, O₂, none)) : propF (k + 1) css W O = (W₂, O₂, false) := by
  unfold propF; rw [h]
theorem prop_stop {css : List (List Int)} {W O W₂ O₂ : List Int} {k : Nat} (h : roundF css W O false = (W₂, O₂, some false)) : propF (k + 1) css W O = (W₂, O₂, true) := by
  unfold propF; rw [h]
theorem prop_go {css : List (List Int)} {W O W₂ O₂ : List Int} {k : Nat} (h : roundF css W O false = (W₂, O₂, some true)) : propF (k + 1) css W O = propF k css W₂ O₂ := by
  rw [propF, h]
theorem isFls_eq {c : CS} (h : c.isFls = true) : c = .fls := by cases c <;> first | rfl | cases h
theorem isUnit_eq {c : CS} (h : c.isUnit = true) : ∃ l, c = .unit l := by cases c <;> first | exact ⟨_, rfl⟩ | cases h

theorem news_wo {g h h' : Heap} {L aW aO : Addr} (pre : List (Addr × Obj)) {x y x' y' : Obj} (N : News g L h (pre ++ [(aW, x), (aO, y)])) (k : Keep (hideAll h [aW, aO]) h') (hp : ∀ p ∈ pre, p.1 ≠ aW ∧ p.1 ≠ aO)
    (eW : h'.get? aW = some x') (eO : h'.get? aO = some y') : News g L h' (pre ++ [(aW, x'), (aO, y')]) := by
  intro p hp'
  rcases List.mem_append.mp hp' with q | q
  · have z := N p (List.mem_append_left _ q)
    refine ⟨hid_keep k z.1 ?_, z.2⟩
    simp only [List.mem_cons, List.not_mem_nil, or_false, not_or]
    exact hp p q
  · rcases List.mem_cons.mp q with r | r
    · subst r; exact ⟨eW, (N (aW, x) (by simp)).2⟩
    · rw [List.mem_singleton.mp r]; exact ⟨eO, (N (aO, y) (by simp)).2⟩

theorem propagate_ok {Q : Value → Shared → Prop} {x a aW aO aM : Addr} {W O : List Int} {css : List (List Int)} {n : Nat}
    (G : Gd (hd.heap_39 w.params) p loose mg mb (hideAll s.heap [aW, aO])) (R : Room A 3) (T : TrailAt w.params s.heap x n aW aO aM) (hWO : aW ≠ aO) (hW : LsAt s.heap aW W) (hO : LsAt s.heap aO O)
    (hcs : IsLL (hideAll s.heap [aW, aO]) a css) (S : Small n css) (tr : Tr n W O)
    (ret : ∀ s', Same s s' → Keep (hideAll s.heap [aW, aO]) s'.heap → LsAt s'.heap aW (propF (n + 1) css W O).1 → LsAt s'.heap aO (propF (n + 1) css W O).2.1 → Q (.bool (propF (n + 1) css W O).2.2) s') :
    wpAny (model prog w) A (call (.ref 131) [.ref x, .ref a]) Q E s := by
  have hn3 := S.n3
  have T' := T.hid (as := [aW, aO]) (fun a ha => by
    rcases List.mem_cons.mp ha with q | q
    · exact ⟨W, q ▸ hW⟩
    · exact ⟨O, List.mem_singleton.mp q ▸ hO⟩)
  obtain ⟨cvs, hca, hcp⟩ := hcs
  have hlen : cvs.toArray.size = css.length := by simp [paired_len hcp]
  have TT := T'
  obtain ⟨dx, t₁, t₂, t₃, t₄, t₅, hx, hdx⟩ := T'
  obtain ⟨vW, qW, eW, iW⟩ := hW
  obtain ⟨vO, qO, eO, iO⟩ := hO
  have gW : (hideAll s.heap [aW, aO]).get? aW = none := hideAll_none _ (by simp)
  have gO : (hideAll s.heap [aW, aO]).get? aO = none := hideAll_none _ (by simp)
  have gWO : ∀ b ∈ [aW, aO], (hideAll s.heap [aW, aO]).get? b = none := fun b hb => hideAll_none _ hb
  refine enter (g := hideAll s.heap [aW, aO]) (binds := [("trail", .ref x), ("clauses", .ref a)]) G (keep_hide _) (Nat.le_of_eq (hideAll_size _ _)) (by k_is) (by k_is) R.room (BindsTo.of_eq rfl) (locs rfl) ?_ rfl rfl rfl (by decide)
  intro L h tk F hk hL
  have LW : aW ≠ L := Nat.ne_of_lt (Nat.lt_of_lt_of_le (Heap.lt_size eW) hL)
  have LO : aO ≠ L := Nat.ne_of_lt (Nat.lt_of_lt_of_le (Heap.lt_size eO) hL)
  have LWO : L ∉ [aW, aO] := by simp only [List.mem_cons, List.not_mem_nil, or_false, not_or]; exact ⟨Ne.symm LW, Ne.symm LO⟩
  have haL : a ≠ L := fun q => by
    have := list_lt hca
    rw [hideAll_size, q] at this; exact Nat.lt_irrefl _ (Nat.lt_of_lt_of_le this hL)
  have N : News (hideAll s.heap [aW, aO]) L h [(aW, listOf vW.toArray qW), (aO, listOf vO.toArray qO)] :=
    news_cons (news_cons News.nil (hk _ _ eO) LO gO) (hk _ _ eW) LW gW
  clear eW eO hk T
  generalize hideAll s.heap [aW, aO] = g at *
  (repeat (first | with_reducible refine wpAny_execs_cons ?_))
  refine wpAny_For ?_ (fun _ => rfl)
  (repeat (first | with_reducible refine wpAny_BinOp ?_ | with_reducible refine wpAny_Constant_int ?_ | with_reducible refine add_int ?_ | ((with_reducible show wpAny _ _ (eval (Expr.Name _ _) _) _ _ _); (first | (refine nameX_L (v := _) F (by (repeat (first | with_reducible assumption | with_reducible exact up_eq _ _ _ | refine (up_ne (by decide)).trans ?_ | exact rfl))) ?_ rfl rfl (by decide)) | (refine nameX_C (c := _) (o := _) (v := _) N rfl (by k_mem) (by assumption) ?_ rfl rfl (by decide)) | (refine r_glob G F (by k_is) ?_ rfl rfl (by decide)) | (refine r_boot G F (by boot_fast) (by k_is) (by decide) ?_ rfl rfl (by decide)))) | (with_reducible refine args_cons ?_ rfl) | (with_reducible refine args_nil ?_) | ((with_reducible show wpAny _ _ (callWith _ (Value.type _) [] _ []) _ _ _); refine Pv.callWith_type1 ?_ rfl rfl) | (with_reducible refine Call_ ?_ rfl) | (with_reducible refine Attribute_any_ ?_ (by with_unfolding_all rfl)) | ((with_reducible show wpAny _ _ (getAttr (Value.ref _) _ _) _ _ _); refine r_attr (attr := _) (v := _) G F (F.keep _ _ (by with_reducible assumption)) (by first | exact F.keep _ _ (by with_reducible assumption) | exact N.get (by k_mem)) (by k_is) (by k_is) (by k_is) (by k_is) (by k_get) rfl (fun tk => ?_))))
  (refine r_range1 F N ?_; clear F N; intro r h tk t0 u0 v0 F N hr hkr)
  have nW : aW ≠ h.objs.size := news_ne N _ (List.mem_cons_self ..)
  have nO : aO ≠ h.objs.size := news_ne N _ (List.mem_cons_of_mem _ (List.mem_cons_self ..))
  have hIL := ne_frame F
  have hIg := fresh_of F.keep
  refine for_range (n := n + 1) (fun i m s' => Same s s' ∧ m "trail" = some (.ref x) ∧ m "clauses" = some (.ref a) ∧ ∃ W' O' vW qW vO qO,
      News g L s'.heap [(aW, listOf vW.toArray qW), (aO, listOf vO.toArray qO)] ∧ IntsAre vW W' ∧ IntsAre vO O' ∧ Tr n W' O' ∧ propF (n + 1) css W O = propF (n + 1 - i) css W' O')
    R.handled hr (sm0 (n := n + 1) (Nat.le_trans (Nat.succ_le_succ hn3) (by decide))) (sz0 (n + 1)) rfl rfl F ?_ ?_ ?_ ?_
  · intro h' tk' kp
    exact ⟨Same.of _ _ _, rfl, rfl, W, O, _, _, _, _, N.grown kp, iW, iO, tr, rfl⟩
  · rintro i m s₁ h' tk' ⟨a, b, c, W', O', vW, qW, vO, qO, N', d⟩ kp
    refine ⟨a.set _ _, b, c, W', O', vW, qW, vO, qO, news_move N' (fun p hp => ?_) kp, d⟩
    rcases List.mem_cons.mp hp with q | q
    · rw [q]; exact nW
    · rw [List.mem_singleton.mp q]; exact nO
  · rintro i t' m s₁ E' hi ⟨hs₁, hm1, hm2, W', O', vW, qW, vO, qO, N, iW, iO, tr', hpf⟩ F ⟨oI, hoI⟩
    replace F : Fr g L s₁.heap (up m "walk" (.int (0 + (i : Nat)) t')) := F
    replace N := news_cons N hoI hIL hIg
    obtain ⟨I, hI⟩ : ∃ I, I = h.objs.size := ⟨_, rfl⟩
    rw [← hI] at N hIL hIg nW nO hoI ⊢
    clear hr hkr
    (repeat (first | with_reducible refine wpAny_execs_cons ?_ | with_reducible refine Constant_bool ?_ | (with_reducible refine wpAny_Assign_Name ?_ (by with_unfolding_all rfl)) | ((with_reducible show wpAny _ _ (storeName _ _ _) _ _ _); (refine r_store F N ?_ rfl rfl; clear F N; intro h tk F N hg))))
    refine wpAny_For ?_ (fun _ => rfl)
    (repeat (first | ((with_reducible show wpAny _ _ (eval (Expr.Name _ _) _) _ _ _); (first | (refine nameX_L (v := _) F (by (repeat (first | with_reducible assumption | with_reducible exact up_eq _ _ _ | refine (up_ne (by decide)).trans ?_ | exact rfl))) ?_ rfl rfl (by decide)) | (refine nameX_C (c := _) (o := _) (v := _) N rfl (by k_mem) (by assumption) ?_ rfl rfl (by decide)) | (refine r_glob G F (by k_is) ?_ rfl rfl (by decide)) | (refine r_boot G F (by boot_fast) (by k_is) (by decide) ?_ rfl rfl (by decide))))))
    obtain ⟨k, hk⟩ : ∃ k, n + 1 - i = k + 1 := ⟨n - i, by (first | lia | omega)⟩
    rw [hk] at hpf
    have nI : I ≠ h.objs.size := news_ne N _ (List.mem_cons_self ..)
    have nW' : aW ≠ h.objs.size := news_ne N _ (List.mem_cons_of_mem _ (List.mem_cons_self ..))
    have nO' : aO ≠ h.objs.size := news_ne N _ (List.mem_cons_of_mem _ (List.mem_cons_of_mem _ (List.mem_cons_self ..)))
    have hJL := ne_frame F
    have hJg := fresh_of F.keep
    refine for_list (items := cvs.toArray) (fun j m s' => Same s s' ∧ m "trail" = some (.ref x) ∧ m "clauses" = some (.ref a) ∧ ∃ W₂ O₂ vW qW vO qO mv,
        News g L s'.heap [(I, oI), (aW, listOf vW.toArray qW), (aO, listOf vO.toArray qO)] ∧ IntsAre vW W₂ ∧ IntsAre vO O₂ ∧ Tr n W₂ O₂ ∧ m "moved" = some (.bool mv) ∧ roundF css W' O' false = roundF (css.drop j) W₂ O₂ mv)
      R.handled (stays_list F.keep hca) haL rfl rfl F ?_ ?_ ?_ ?_
    · intro h' tk' kp
      exact ⟨hs₁.set _ _, (up_ne (by decide)).trans ((up_ne (by decide)).trans hm1), (up_ne (by decide)).trans ((up_ne (by decide)).trans hm2), W', O', _, _, _, _, false, N.grown kp, iW, iO, tr', up_eq _ _ _, rfl⟩
    · rintro j m s₁ h' tk' ⟨a, b, c, W₂, O₂, vW, qW, vO, qO, mv, N', d⟩ kp
      refine ⟨a.set _ _, b, c, W₂, O₂, vW, qW, vO, qO, mv, news_move N' (fun p hp => ?_) kp, d⟩
      rcases List.mem_cons.mp hp with q | hp
      · rw [q]; exact nI
      · rcases List.mem_cons.mp hp with q | q
        · rw [q]; exact nW'
        · rw [List.mem_singleton.mp q]; exact nO'
    · rintro j y m s₂ E₂ hy ⟨hs₂, hm1, hm2, W₂, O₂, vW, qW, vO, qO, mv, N, iW, iO, tr₂, hmv, hrf⟩ F - ⟨oJ, hoJ⟩
      obtain ⟨b, its, c, rfl, hc, hmem, hbl, hbi⟩ := ll_at hcp hy
      replace F : Fr g L s₂.heap (up m "clause" (.ref b)) := F
      obtain ⟨J, hJ⟩ : ∃ J, J = h.objs.size := ⟨_, rfl⟩
      rw [← hJ] at hJL hJg nI nW' nO' hoJ ⊢
      replace N := news_cons N hoJ hJL hJg
      rw [drop_at hc] at hrf
      have fin : ∀ (s' : Shared) (m' : Str → Option Value) (W₃ O₃ : List Int) (vW : List Value) (qW : Nat) (vO : List Value) (qO : Nat) (mv : Bool), Same s s' → Fr g L s'.heap m' → m' "trail" = some (.ref x) → m' "clauses" = some (.ref a) →
          News g L s'.heap [(J, oJ), (I, oI), (aW, listOf vW.toArray qW), (aO, listOf vO.toArray qO)] → IntsAre vW W₃ → IntsAre vO O₃ → Tr n W₃ O₃ → m' "moved" = some (.bool mv) → roundF css W' O' false = roundF (css.drop (j + 1)) W₃ O₃ mv →
          ∃ m', Fr g L s'.heap m' ∧ (∀ o, s₂.heap.get? J = some o → s'.heap.get? J = some o) ∧ (∀ o, s₂.heap.get? a = some o → s'.heap.get? a = some o) ∧ Same s s' ∧ m' "trail" = some (.ref x) ∧ m' "clauses" = some (.ref a) ∧ ∃ W₂ O₂ vW qW vO qO mv,
            News g L s'.heap [(I, oI), (aW, listOf vW.toArray qW), (aO, listOf vO.toArray qO)] ∧ IntsAre vW W₂ ∧ IntsAre vO O₂ ∧ Tr n W₂ O₂ ∧ m' "moved" = some (.bool mv) ∧ roundF css W' O' false = roundF (css.drop (j + 1)) W₂ O₂ mv :=
        fun s' m' W₃ O₃ vW qW vO qO mv a1 a2 a3 a4 a5 a6 a7 a8 a9 a10 => ⟨m', a2, news_at a5 (List.mem_cons_self ..) hoJ, kept_g F a2 hca, a1, a3, a4, W₃, O₃, vW, qW, vO, qO, mv, news_sub a5 (fun p hp => List.mem_cons_of_mem _ hp), a6, a7, a8, a9, a10⟩
      (repeat (first | with_reducible refine wpAny_execs_cons ?_ | ((with_reducible show wpAny _ _ (eval (Expr.Name _ _) _) _ _ _); (first | (refine nameX_L (v := _) F (by (repeat (first | with_reducible assumption | with_reducible exact up_eq _ _ _ | refine (up_ne (by decide)).trans ?_ | exact rfl))) ?_ rfl rfl (by decide)) | (refine nameX_C (c := _) (o := _) (v := _) N rfl (by k_mem) (by assumption) ?_ rfl rfl (by decide)) | (refine r_glob G F (by k_is) ?_ rfl rfl (by decide)) | (refine r_boot G F (by boot_fast) (by k_is) (by decide) ?_ rfl rfl (by decide)))) | (with_reducible refine args_cons ?_ rfl) | (with_reducible refine args_nil ?_) | ((with_reducible show Keep _ _ ∧ _); refine And.intro F.keep ?_) | ((with_reducible show wpAny _ _ (callWith _ (Value.ref _) [] _ []) _ _ _); refine r_callf G (by k_is) ?_ rfl rfl) | (with_reducible refine Call_ ?_ rfl) | (with_reducible refine Assign_Tuple ?_ (by with_unfolding_all rfl) (by with_unfolding_all rfl)) | (with_reducible refine Attribute_any_ ?_ (by with_unfolding_all rfl)) | ((with_reducible show wpAny _ _ (getAttr (Value.ref _) _ _) _ _ _); refine r_attr (attr := _) (v := _) G F (F.keep _ _ (by with_reducible assumption)) (by first | exact F.keep _ _ (by with_reducible assumption) | exact N.get (by k_mem)) (by k_is) (by k_is) (by k_is) (by k_is) (by k_get) rfl (fun tk => ?_))))
      refine clause_state_ok (G.keeps F.keep) (R.deeper _) (stays_list F.keep hbl) hbi ⟨_, N.get (List.mem_cons_of_mem _ (List.mem_cons_of_mem _ (List.mem_cons_self ..))), rfl, _, rfl⟩ iW (S.val c hmem) tr₂.len hn3 (S.each c hmem) (fun T t₁ t₂ s' sm kp hT => ?_)
      replace F := F.keeps kp
      replace N := N.grown kp
      skip
      refine r_unpack2 (show A.handled = none from R.handled) F N hT (fun h tk F N hg => ?_) rfl rfl rfl
      (repeat (first | with_reducible refine wpAny_execs_cons ?_ | with_reducible refine wpAny_If ?_ | (with_reducible refine wpAny_isTrue_Compare1 ?_ (by with_unfolding_all rfl)) | with_reducible refine wpAny_Constant_str ?_ | ((with_reducible show wpAny _ _ (eval (Expr.Name _ _) _) _ _ _); (first | (refine nameX_L (v := _) F (by (repeat (first | with_reducible assumption | with_reducible exact up_eq _ _ _ | refine (up_ne (by decide)).trans ?_ | exact rfl))) ?_ rfl rfl (by decide)) | (refine nameX_C (c := _) (o := _) (v := _) N rfl (by k_mem) (by assumption) ?_ rfl rfl (by decide)) | (refine r_glob G F (by k_is) ?_ rfl rfl (by decide)) | (refine r_boot G F (by boot_fast) (by k_is) (by decide) ?_ rfl rfl (by decide))))))
      refine eq_str ?_
      rw [tag_eq_false]
      (repeat (first | with_reducible refine wpAny_truthy_bool ?_))
      refine split_bool (fun hc' => ?_) (fun hc' => ?_)
      · have e := isFls_eq hc'
        (repeat (first | with_reducible refine wpAny_execs_cons ?_ | with_reducible refine wpAny_Return_some ?_ | with_reducible refine Constant_bool ?_))
        rw [roundF, e] at hrf
        rw [hpf, prop_fls hrf] at ret
        exact ret _ (((hs₂.set _ _).trans sm).set _ _) F.keep ⟨_, _, N.get (List.mem_cons_of_mem _ (List.mem_cons_of_mem _ (List.mem_cons_self ..))), iW⟩ ⟨_, _, N.get (List.mem_cons_of_mem _ (List.mem_cons_of_mem _ (List.mem_cons_of_mem _ (List.mem_cons_self ..)))), iO⟩
      · (repeat (first | with_reducible refine wpAny_execs_cons ?_ | with_reducible refine wpAny_execs_nil ?_ | with_reducible refine wpAny_If ?_ | (with_reducible refine wpAny_isTrue_Compare1 ?_ (by with_unfolding_all rfl)) | with_reducible refine wpAny_Constant_str ?_ | ((with_reducible show wpAny _ _ (eval (Expr.Name _ _) _) _ _ _); (first | (refine nameX_L (v := _) F (by (repeat (first | with_reducible assumption | with_reducible exact up_eq _ _ _ | refine (up_ne (by decide)).trans ?_ | exact rfl))) ?_ rfl rfl (by decide)) | (refine nameX_C (c := _) (o := _) (v := _) N rfl (by k_mem) (by assumption) ?_ rfl rfl (by decide)) | (refine r_glob G F (by k_is) ?_ rfl rfl (by decide)) | (refine r_boot G F (by boot_fast) (by k_is) (by decide) ?_ rfl rfl (by decide))))))
        refine eq_str ?_
        rw [tag_eq_unit]
        (repeat (first | with_reducible refine wpAny_truthy_bool ?_))
        refine split_bool (fun hc'' => ?_) (fun hc'' => ?_)
        · obtain ⟨l, e⟩ := isUnit_eq hc''
          rw [e] at F
          obtain ⟨hl, h0, _⟩ := clause_unit e
          have hvl := S.val c hmem l hl
          (repeat (first | with_reducible refine wpAny_execs_cons ?_ | ((with_reducible show wpAny _ _ (eval (Expr.Name _ _) _) _ _ _); (first | (refine nameX_L (v := _) F (by (repeat (first | with_reducible assumption | with_reducible exact up_eq _ _ _ | refine (up_ne (by decide)).trans ?_ | exact rfl))) ?_ rfl rfl (by decide)) | (refine nameX_C (c := _) (o := _) (v := _) N rfl (by k_mem) (by assumption) ?_ rfl rfl (by decide)) | (refine r_glob G F (by k_is) ?_ rfl rfl (by decide)) | (refine r_boot G F (by boot_fast) (by k_is) (by decide) ?_ rfl rfl (by decide)))) | (with_reducible refine args_cons ?_ rfl) | (with_reducible refine args_nil ?_) | ((with_reducible show Keep _ _ ∧ _); refine And.intro F.keep ?_) | (with_reducible refine wpAny_Expr ?_ (by with_unfolding_all rfl) (by with_unfolding_all rfl)) | (with_reducible refine MethodCall_ (pl := _) ?_ (by with_unfolding_all rfl)) | ((with_reducible show wpAny _ _ (getMethod (Value.ref _) _ _) _ _ _); refine r_meth (f := _) G F (F.keep _ _ (by with_reducible assumption)) (by first | exact F.keep _ _ (by with_reducible assumption) | exact N.get (by k_mem)) (by k_is) (by k_is) (by k_is) rfl ?_) | ((with_reducible show wpAny _ _ (callWith _ (Value.ref _) (_ :: _) (backTo _ (starEach (_ :: _) _)) []) _ _ _); refine r_callm G (by k_is) ?_ rfl rfl)))
          refine assign_ok (G.keeps (keep_hid F.keep gWO)) ((R.less (by decide)).deeper _) (TT.keep F.keep) hWO ⟨_, _, N.get (List.mem_cons_of_mem _ (List.mem_cons_of_mem _ (List.mem_cons_self ..))), iW⟩
            ⟨_, _, N.get (List.mem_cons_of_mem _ (List.mem_cons_of_mem _ (List.mem_cons_of_mem _ (List.mem_cons_self ..)))), iO⟩ hvl tr₂.len hn3 (by have := tr₂.length_le; (first | lia | omega)) (fun s₅ sm₅ kp₅ hW₅ hO₅ => ?_)
          obtain ⟨vW₅, qW₅, eW₅, iW₅⟩ := hW₅
          obtain ⟨vO₅, qO₅, eO₅, iO₅⟩ := hO₅
          replace F := fr_hid F kp₅ gWO LWO
          replace N := news_wo [(J, oJ), (I, oI)] N kp₅ (fun p hp => by
            rcases List.mem_cons.mp hp with q | q
            · rw [q]; exact ⟨Ne.symm nW', Ne.symm nO'⟩
            · rw [List.mem_singleton.mp q]; exact ⟨Ne.symm nW, Ne.symm nO⟩) eW₅ eO₅
          replace N : News g L s₅.heap [(J, oJ), (I, oI), (aW, listOf vW₅.toArray qW₅), (aO, listOf vO₅.toArray qO₅)] := N
          show wpAny _ _ _ _ _ _
          (repeat (first | with_reducible refine wpAny_execs_cons ?_ | with_reducible refine wpAny_execs_nil ?_ | with_reducible refine Constant_bool ?_ | (with_reducible refine wpAny_Assign_Name ?_ (by with_unfolding_all rfl)) | ((with_reducible show wpAny _ _ (storeName _ _ _) _ _ _); (refine r_store F N ?_ rfl rfl; clear F N; intro h tk F N hg))))
          exact fin _ _ _ _ _ _ _ _ true (((((hs₂.set _ _).trans sm).set _ _).trans sm₅).set _ _) F ((up_ne (by decide)).trans ((up_ne (by decide)).trans ((up_ne (by decide)).trans ((up_ne (by decide)).trans hm1)))) ((up_ne (by decide)).trans ((up_ne (by decide)).trans ((up_ne (by decide)).trans ((up_ne (by decide)).trans hm2)))) N iW₅ iO₅ (tr₂.snoc hvl h0)
            (up_eq _ _ _) (by rw [hrf, roundF, e]; rfl)
        · (repeat (first | with_reducible refine wpAny_execs_nil ?_))
          have hrf' : roundF css W' O' false = roundF (css.drop (j + 1)) W₂ O₂ mv := by
            rw [hrf, roundF]
            cases e : clauseState c W₂ with
            | tru => rfl
            | opn => rfl
            | fls => rw [e] at hc'; cases hc'
            | unit l => rw [e] at hc''; cases hc''
          exact fin _ _ W₂ O₂ _ _ _ _ mv (((hs₂.set _ _).trans sm).set _ _) F ((up_ne (by decide)).trans ((up_ne (by decide)).trans ((up_ne (by decide)).trans hm1))) ((up_ne (by decide)).trans ((up_ne (by decide)).trans ((up_ne (by decide)).trans hm2))) N iW iO tr₂
            ((up_ne (by decide)).trans ((up_ne (by decide)).trans ((up_ne (by decide)).trans hmv))) hrf'
    · rintro m s₂ ⟨hs₂, hm1, hm2, W₂, O₂, vW, qW, vO, qO, mv, N, iW, iO, tr₂, hmv, hrf⟩ F
      rw [hlen, List.drop_length] at hrf
      replace hrf : roundF css W' O' false = (W₂, O₂, some mv) := hrf
      show wpAny _ _ _ _ _ _
      (repeat (first | with_reducible refine wpAny_execs_cons ?_ | with_reducible refine wpAny_If ?_ | with_reducible refine isTrue_not ?_ | with_reducible refine wpAny_truthy_bool ?_ | ((with_reducible show wpAny _ _ (eval (Expr.Name _ _) _) _ _ _); (first | (refine nameX_L (v := _) F (by (repeat (first | with_reducible assumption | with_reducible exact up_eq _ _ _ | refine (up_ne (by decide)).trans ?_ | exact rfl))) ?_ rfl rfl (by decide)) | (refine nameX_C (c := _) (o := _) (v := _) N rfl (by k_mem) (by assumption) ?_ rfl rfl (by decide)) | (refine r_glob G F (by k_is) ?_ rfl rfl (by decide)) | (refine r_boot G F (by boot_fast) (by k_is) (by decide) ?_ rfl rfl (by decide)))) | (with_reducible refine isTrue_plain ?_ (by with_unfolding_all rfl))))
      cases mv with
      | false =>
        simp only [Bool.not_false, if_true]
        (repeat (first | with_reducible refine wpAny_execs_cons ?_ | with_reducible refine wpAny_Return_some ?_ | with_reducible refine Constant_bool ?_))
        rw [hpf, prop_stop hrf] at ret
        exact ret _ (hs₂.set _ _) F.keep ⟨_, _, N.get (List.mem_cons_of_mem _ (List.mem_cons_self ..)), iW⟩ ⟨_, _, N.get (List.mem_cons_of_mem _ (List.mem_cons_of_mem _ (List.mem_cons_self ..))), iO⟩
      | true =>
        simp only [Bool.not_true, Bool.false_eq_true, if_false]
        (repeat (first | with_reducible refine wpAny_execs_nil ?_))
        refine ⟨_, F, news_at N (List.mem_cons_self ..) hoI, hs₂.set _ _, hm1, hm2, W₂, O₂, vW, qW, vO, qO, news_sub N (fun p hp => List.mem_cons_of_mem _ hp), iW, iO, tr₂, ?_⟩
        rw [hpf, prop_go hrf, show n + 1 - (i + 1) = k by (first | lia | omega)]
  · rintro m s₁ ⟨hs₁, hm1, hm2, W', O', vW, qW, vO, qO, N, iW, iO, tr', hpf⟩ F
    rw [Nat.sub_self] at hpf
    replace hpf : propF (n + 1) css W O = (W', O', true) := hpf
    show wpAny _ _ _ _ _ _
    (repeat (first | with_reducible refine wpAny_execs_cons ?_ | with_reducible refine wpAny_Return_some ?_ | with_reducible refine Constant_bool ?_))
    rw [hpf] at ret
    exact ret _ (hs₁.set _ _) F.keep ⟨_, _, N.get (List.mem_cons_self ..), iW⟩ ⟨_, _, N.get (List.mem_cons_of_mem _ (List.mem_cons_self ..)), iO⟩
end
end Mine
namespace Mine
section
variable {prog : Program} {w : World} {A : Around} {E : Value → Shared → Prop} {s : Shared} {p : Program} {loose : List Str} {mg mb : Str → Option Value}

theorem trail_make' {Q : Value → Shared → Prop} {n : Nat} {t : Tok}
    (G : Gd (hd.heap_39 w.params) p loose mg mb s.heap) (R : Room A 2) (hn : n ≤ 3)
    (ret : ∀ x dx t₁ t₂ t₃ t₄ t₅ aW aO aM s', Same s s' → Keep s.heap s'.heap → s'.heap.get? x = some (instObj 120 dx) → s'.heap.get? dx = some (dictOf (tEs w.params t₁ t₂ t₃ t₄ t₅ (n : Nat) aW aO aM) 4) →
      @LE.le Nat _ s.heap.objs.size x → @LE.le Nat _ s.heap.objs.size dx → LsAt s'.heap aW (List.replicate (n + 1) 0) → LsAt s'.heap aO [] → LsAt s'.heap aM [] →
      @LE.le Nat _ s.heap.objs.size aW → @LT.lt Nat _ aW aO → @LT.lt Nat _ aO aM → Q (.ref x) s') :
    wpAny (model prog w) A (call (.ref 120) [.int (n : Nat) t]) Q E s := by
  refine r_make (fI := 68) G (by k_is) (by k_is) (by k_is) (fun x dx h' ex edx kp hx hdx hsz => ?_)
  have hxd : x ≠ dx := by rw [ex, edx]; exact Nat.succ_ne_self _
  have gdx : (hideAll h' [dx]).get? dx = none := hideAll_none _ (by simp)
  have hxg : (hideAll h' [dx]).get? x = some (instObj 120 dx) := hideAll_get _ hx (by simpa using hxd)
  have kpg : Keep s.heap (hideAll h' [dx]) := keep_hid kp (fun b hb => by rw [List.mem_singleton.mp hb, edx]; exact fresh_of (Keep.refl _))
  refine enterCode (g := hideAll h' [dx]) (binds := [("self", .ref x), ("n", .int (n : Nat) t)]) (G.keeps kpg) (keep_hide _) (Nat.le_of_eq (hideAll_size _ _)) (by k_is) (by k_is) (R.make _ _).room (BindsTo.of_eq rfl) (locs rfl) ?_ rfl rfl rfl (by decide)
  intro L h tk F hk hL
  have hdL : dx ≠ L := Nat.ne_of_lt (Nat.lt_of_lt_of_le (Heap.lt_size hdx) hL)
  have N : News (hideAll h' [dx]) L h [(dx, dictOf [] 0)] := news_cons News.nil (hk _ _ hdx) hdL gdx
  replace G := G.keeps kpg
  have hgs : (hideAll h' [dx]).objs.size = s.heap.objs.size + 2 := by rw [hideAll_size]; exact hsz
  have kpg' := kpg
  clear hk kp hx hdx
  generalize hideAll h' [dx] = g at *
  (repeat (first | with_reducible refine wpAny_execs_cons ?_ | ((with_reducible show wpAny _ _ (eval (Expr.Name _ _) _) _ _ _); (first | (refine nameX_L (v := _) F (by (repeat (first | with_reducible assumption | with_reducible exact up_eq _ _ _ | refine (up_ne (by decide)).trans ?_ | exact rfl))) ?_ rfl rfl (by decide)) | (refine nameX_C (c := _) (o := _) (v := _) N rfl (by k_mem) (by assumption) ?_ rfl rfl (by decide)) | (refine r_glob G F (by k_is) ?_ rfl rfl (by decide)) | (refine r_boot G F (by boot_fast) (by k_is) (by decide) ?_ rfl rfl (by decide)))) | (with_reducible refine plainObj_wpAny_Assign_Attribute ?_ (by with_unfolding_all rfl))))
  refine r_setattr (fun t₁ => [⟨PyData.keyHash w.params "n", .str "n" t₁, .int (n : Nat) t⟩]) 1 G F N (F.keep _ _ hxg) (by k_is) (by k_is) (by k_is) (by k_is) rfl (fun _ => rfl) (fun _ => Upd.head (by simp)) (fun _ => by simp) (fun h tk t₁ F N => ?_)
  (repeat (first | with_reducible refine wpAny_execs_cons ?_ | with_reducible refine wpAny_BinOp ?_ | with_reducible refine wpAny_Constant_int ?_ | with_reducible refine List_ ?_ | with_reducible refine add_int ?_ | ((with_reducible show wpAny _ _ (eval (Expr.Name _ _) _) _ _ _); (first | (refine nameX_L (v := _) F (by (repeat (first | with_reducible assumption | with_reducible exact up_eq _ _ _ | refine (up_ne (by decide)).trans ?_ | exact rfl))) ?_ rfl rfl (by decide)) | (refine nameX_C (c := _) (o := _) (v := _) N rfl (by k_mem) (by assumption) ?_ rfl rfl (by decide)) | (refine r_glob G F (by k_is) ?_ rfl rfl (by decide)) | (refine r_boot G F (by boot_fast) (by k_is) (by decide) ?_ rfl rfl (by decide)))) | (with_reducible refine args_cons ?_ rfl) | (with_reducible refine args_nil ?_) | ((with_reducible show wpAny _ _ (newList _) _ _ _); (refine newList_K F N ?_ (by size_fits)); clear F N; intro D h F N hDlt) | (with_reducible refine plainObj_wpAny_Assign_Attribute ?_ (by with_unfolding_all rfl))))
  have hD0 := hDlt _ (List.mem_cons_self ..)
  rw [show ((n : Nat) : Int) + 1 = ((n + 1 : Nat) : Int) from rfl]
  refine r_rep (k := n + 1) F N (N.get (List.mem_cons_self ..)) (by (first | lia | omega)) (fun aW h F N hlt => ?_)
  have hD1 := hlt _ (List.mem_cons_self ..)
  clear hlt hDlt
  (repeat (first | ((with_reducible show wpAny _ _ (eval (Expr.Name _ _) _) _ _ _); (first | (refine nameX_L (v := _) F (by (repeat (first | with_reducible assumption | with_reducible exact up_eq _ _ _ | refine (up_ne (by decide)).trans ?_ | exact rfl))) ?_ rfl rfl (by decide)) | (refine nameX_C (c := _) (o := _) (v := _) N rfl (by k_mem) (by assumption) ?_ rfl rfl (by decide)) | (refine r_glob G F (by k_is) ?_ rfl rfl (by decide)) | (refine r_boot G F (by boot_fast) (by k_is) (by decide) ?_ rfl rfl (by decide))))))
  refine r_setattr (fun t₂ => [⟨PyData.keyHash w.params "n", .str "n" t₁, .int (n : Nat) t⟩, ⟨PyData.keyHash w.params "worths", .str "worths" t₂, .ref aW⟩]) 2 G F N (F.keep _ _ hxg) (by k_is) (by k_is) (by k_is) (by k_is) rfl (fun _ => rfl) (fun _ => Upd.tail (Nat.ne_of_gt (Nat.lt_trans hD0 hD1)) (Upd.tail (Nat.ne_of_gt hD0) (Upd.head (by simp)))) (fun _ => by simp) (fun h tk t₂ F N => ?_)
  (repeat (first | with_reducible refine wpAny_execs_cons ?_ | with_reducible refine List_ ?_ | ((with_reducible show wpAny _ _ (eval (Expr.Name _ _) _) _ _ _); (first | (refine nameX_L (v := _) F (by (repeat (first | with_reducible assumption | with_reducible exact up_eq _ _ _ | refine (up_ne (by decide)).trans ?_ | exact rfl))) ?_ rfl rfl (by decide)) | (refine nameX_C (c := _) (o := _) (v := _) N rfl (by k_mem) (by assumption) ?_ rfl rfl (by decide)) | (refine r_glob G F (by k_is) ?_ rfl rfl (by decide)) | (refine r_boot G F (by boot_fast) (by k_is) (by decide) ?_ rfl rfl (by decide)))) | (with_reducible refine args_nil ?_) | ((with_reducible show wpAny _ _ (newList _) _ _ _); (refine newList_K F N ?_ (by size_fits)); clear F N; intro D h F N hDlt) | (with_reducible refine plainObj_wpAny_Assign_Attribute ?_ (by with_unfolding_all rfl))))
  have hO0 := hDlt _ (List.mem_cons_self ..)
  clear hDlt
  rename Addr => aO
  refine r_setattr (fun t₃ => [⟨PyData.keyHash w.params "n", .str "n" t₁, .int (n : Nat) t⟩, ⟨PyData.keyHash w.params "worths", .str "worths" t₂, .ref aW⟩, ⟨PyData.keyHash w.params "order", .str "order" t₃, .ref aO⟩]) 3 G F N (F.keep _ _ hxg) (by k_is) (by k_is) (by k_is) (by k_is) rfl (fun _ => rfl) (fun _ => Upd.tail (Nat.ne_of_gt (Nat.lt_trans hD0 (Nat.lt_trans hD1 hO0))) (Upd.tail (Nat.ne_of_gt (Nat.lt_trans hD0 hD1)) (Upd.tail (Nat.ne_of_gt hD0) (Upd.head (by simp))))) (fun _ => by simp) (fun h tk t₃ F N => ?_)
  (repeat (first | with_reducible refine wpAny_execs_cons ?_ | with_reducible refine List_ ?_ | ((with_reducible show wpAny _ _ (eval (Expr.Name _ _) _) _ _ _); (first | (refine nameX_L (v := _) F (by (repeat (first | with_reducible assumption | with_reducible exact up_eq _ _ _ | refine (up_ne (by decide)).trans ?_ | exact rfl))) ?_ rfl rfl (by decide)) | (refine nameX_C (c := _) (o := _) (v := _) N rfl (by k_mem) (by assumption) ?_ rfl rfl (by decide)) | (refine r_glob G F (by k_is) ?_ rfl rfl (by decide)) | (refine r_boot G F (by boot_fast) (by k_is) (by decide) ?_ rfl rfl (by decide)))) | (with_reducible refine args_nil ?_) | ((with_reducible show wpAny _ _ (newList _) _ _ _); (refine newList_K F N ?_ (by size_fits)); clear F N; intro D h F N hDlt) | (with_reducible refine plainObj_wpAny_Assign_Attribute ?_ (by with_unfolding_all rfl))))
  have hM0 := hDlt _ (List.mem_cons_self ..)
  clear hDlt
  rename Addr => aM
  refine r_setattr (fun t₄ => tEs w.params t₁ t₂ t₃ t₄ t n aW aO aM) 4 G F N (F.keep _ _ hxg) (by k_is) (by k_is) (by k_is) (by k_is) rfl (fun _ => rfl) (fun _ => Upd.tail (Nat.ne_of_gt (Nat.lt_trans hD0 (Nat.lt_trans hD1 (Nat.lt_trans hO0 hM0)))) (Upd.tail (Nat.ne_of_gt (Nat.lt_trans hD0 (Nat.lt_trans hD1 hO0))) (Upd.tail (Nat.ne_of_gt (Nat.lt_trans hD0 hD1)) (Upd.tail (Nat.ne_of_gt hD0) (Upd.head (by simp)))))) (fun _ => by simp) (fun h tk t₄ F N => ?_)
  (repeat (first | with_reducible refine wpAny_execs_nil ?_))
  refine ⟨rfl, ret x dx t₁ t₂ t₃ t₄ t aW aO aM _ (Same.of _ _ _) (kpg'.trans F.keep) (F.keep _ _ hxg) (N.get (by k_mem)) (by rw [ex]; exact Nat.le_succ _) (by rw [edx]; exact Nat.le_refl _) ⟨_, _, N.get (by k_mem), ints_rep _ _⟩ ⟨_, _, N.get (by k_mem), IntsAre.nil⟩ ⟨_, _, N.get (by k_mem), IntsAre.nil⟩ ?_ hO0 hM0⟩
  have hD1' : @LT.lt Nat _ dx aW := Nat.lt_trans hD0 hD1
  rw [edx] at hD1'; exact Nat.le_of_lt hD1'
theorem trail_make {Q : Value → Shared → Prop} {n : Nat} {t : Tok}
    (G : Gd (hd.heap_39 w.params) p loose mg mb s.heap) (R : Room A 2) (hn : n ≤ 3)
    (ret : ∀ x aW aO aM s', Same s s' → Keep s.heap s'.heap → TrailAt w.params s'.heap x n aW aO aM → LsAt s'.heap aW (List.replicate (n + 1) 0) → LsAt s'.heap aO [] → LsAt s'.heap aM [] →
      @LE.le Nat _ s.heap.objs.size aW → @LT.lt Nat _ aW aO → @LT.lt Nat _ aO aM → Q (.ref x) s') :
    wpAny (model prog w) A (call (.ref 120) [.int (n : Nat) t]) Q E s :=
  trail_make' G R hn fun x dx t₁ t₂ t₃ t₄ t₅ aW aO aM s' sm kp hx hdx _ _ a b c d e f => ret x aW aO aM s' sm kp ⟨dx, t₁, t₂, t₃, t₄, t₅, hx, hdx⟩ a b c d e f
end
end Mine
namespace Mine
section
variable {prog : Program} {w : World} {A : Around} {E : Value → Shared → Prop} {s : Shared} {p : Program} {loose : List Str} {mg mb : Str → Option Value}

theorem value_ok {Q : Value → Shared → Prop} {x aW aO aM : Addr} {W : List Int} {n : Nat} {lit : Int} {t : Tok}
    (G : Gd (hd.heap_39 w.params) p loose mg mb s.heap) (R : Room A 2) (T : TrailAt w.params s.heap x n aW aO aM) (hW : LsAt s.heap aW W) (hv : Valid n lit) (hlen : W.length = n + 1) (hn : n ≤ 3)
    (ret : ∀ t s', Same s s' → Keep s.heap s'.heap → Q (.int (litVal lit W) t) s') :
    wpAny (model prog w) A (call (.ref 75) [.ref x, .int lit t]) Q E s := by
  obtain ⟨dx, t₁, t₂, t₃, t₄, t₅, hx, hdx⟩ := T
  obtain ⟨vW, qW, eW, iW⟩ := hW
  refine enter (g := s.heap) (binds := [("self", .ref x), ("lit", .int lit t)]) G (Keep.refl _) (Nat.le_refl _) (by k_is) (by k_is) R.room (BindsTo.of_eq rfl) (locs rfl) ?_ rfl rfl rfl (by decide)
  intro L h tk F hk hL
  have N : News s.heap L h [] := News.nil
  (repeat (first | with_reducible refine wpAny_execs_cons ?_ | with_reducible refine wpAny_Return_some ?_ | ((with_reducible show wpAny _ _ (eval (Expr.Name _ _) _) _ _ _); (first | (refine nameX_L (v := _) F (by (repeat (first | with_reducible assumption | with_reducible exact up_eq _ _ _ | refine (up_ne (by decide)).trans ?_ | exact rfl))) ?_ rfl rfl (by decide)) | (refine nameX_C (c := _) (o := _) (v := _) N rfl (by k_mem) (by assumption) ?_ rfl rfl (by decide)) | (refine r_glob G F (by k_is) ?_ rfl rfl (by decide)) | (refine r_boot G F (by boot_fast) (by k_is) (by decide) ?_ rfl rfl (by decide)))) | (with_reducible refine args_cons ?_ rfl) | (with_reducible refine args_nil ?_) | ((with_reducible show Keep _ _ ∧ _); refine And.intro F.keep ?_) | ((with_reducible show wpAny _ _ (callWith _ (Value.ref _) [] _ []) _ _ _); refine r_callf G (by k_is) ?_ rfl rfl) | (with_reducible refine Call_ ?_ rfl) | (with_reducible refine Attribute_any_ ?_ (by with_unfolding_all rfl)) | ((with_reducible show wpAny _ _ (getAttr (Value.ref _) _ _) _ _ _); refine r_attr (attr := _) (v := _) G F (F.keep _ _ (by with_reducible assumption)) (by first | exact F.keep _ _ (by with_reducible assumption) | exact N.get (by k_mem)) (by k_is) (by k_is) (by k_is) (by k_is) (by k_get) rfl (fun tk => ?_))))
  refine literal_value_ok (G.keeps F.keep) (R.deeper _) (IsL.isList (F.keep _ _ eW)) iW hv hlen hn (fun t' s' sm kp => ?_)
  exact ret _ _ ((Same.of _ _ _).trans sm) (fun b o e => kp b o (F.keep b o e))

theorem mem4 {P : Addr → Prop} {a b c d : Addr} {o₁ o₂ o₃ o₄ : Obj} (h₁ : P a) (h₂ : P b) (h₃ : P c) (h₄ : P d) : ∀ p ∈ [(a, o₁), (b, o₂), (c, o₃), (d, o₄)], P p.1 := fun p hp => by
  simp only [List.mem_cons, List.not_mem_nil, or_false] at hp
  rcases hp with q | q | q | q <;> rw [q] <;> assumption
theorem mem3 {P : Addr → Prop} {a b c : Addr} {o₁ o₂ o₃ : Obj} (h₁ : P a) (h₂ : P b) (h₃ : P c) : ∀ p ∈ [(a, o₁), (b, o₂), (c, o₃)], P p.1 := fun p hp => by
  simp only [List.mem_cons, List.not_mem_nil, or_false] at hp
  rcases hp with q | q | q <;> rw [q] <;> assumption
theorem drop_getI {l : List Int} {i : Nat} (h : i < l.length) : l.drop i = l.getD i 0 :: l.drop (i + 1) := by
  rw [List.getD_eq_getElem?_getD, List.getElem?_eq_getElem h]; exact List.drop_eq_getElem_cons h

theorem follows_ok {Q : Value → Shared → Prop} {a c : Addr} {css : List (List Int)} {cvs : List Value} {cl : List Int} {n : Nat} {t : Tok}
    (G : Gd (hd.heap_39 w.params) p loose mg mb s.heap) (R : Room A 4) (hcs : IsLL s.heap a css) (S : Small n css) (hc : s.heap.IsList c cvs.toArray) (hci : IntsAre cvs cl) (hv : ValidC n cl)
    (ret : ∀ s', Same s s' → Keep s.heap s'.heap → Q (.bool (followsF css n cl)) s') :
    wpAny (model prog w) A (call (.ref 138) [.ref a, .int (n : Nat) t, .ref c]) Q E s := by
  have hn3 := S.n3
  have hcsz : cvs.toArray.size = cl.length := by simp [hci.length]
  refine enter (g := s.heap) (binds := [("clauses", .ref a), ("n", .int (n : Nat) t), ("clause", .ref c)]) G (Keep.refl _) (Nat.le_refl _) (by k_is) (by k_is) R.room (BindsTo.of_eq rfl) (locs rfl) ?_ rfl rfl rfl (by decide)
  intro L h tk F hk hL
  have N : News s.heap L h [] := News.nil
  have hcL : c ≠ L := Nat.ne_of_lt (Nat.lt_of_lt_of_le (list_lt hc) hL)
  (repeat (first | with_reducible refine wpAny_execs_cons ?_ | ((with_reducible show wpAny _ _ (eval (Expr.Name _ _) _) _ _ _); (first | (refine nameX_L (v := _) F (by (repeat (first | with_reducible assumption | with_reducible exact up_eq _ _ _ | refine (up_ne (by decide)).trans ?_ | exact rfl))) ?_ rfl rfl (by decide)) | (refine nameX_C (c := _) (o := _) (v := _) N rfl (by k_mem) (by assumption) ?_ rfl rfl (by decide)) | (refine r_glob G F (by k_is) ?_ rfl rfl (by decide)) | (refine r_boot G F (by boot_fast) (by k_is) (by decide) ?_ rfl rfl (by decide)))) | (with_reducible refine args_cons ?_ rfl) | (with_reducible refine args_nil ?_) | ((with_reducible show Keep _ _ ∧ _); refine And.intro F.keep ?_) | ((with_reducible show wpAny _ _ (callWith _ (Value.ref _) [] _ []) _ _ _); refine r_callf G (by k_is) ?_ rfl rfl) | (with_reducible refine Call_ ?_ rfl) | (with_reducible refine wpAny_Assign_Name ?_ (by with_unfolding_all rfl))))
  refine trail_make' (G.keeps F.keep) ((R.less (by decide)).deeper _) hn3 (fun x dx t₁ t₂ t₃ t₄ t₅ aW aO aM s₁ sm₁ kp₁ hx hdx lx ldx hW hO _ lW lWO lOM => ?_)
  have hsL : @LT.lt Nat _ L h.objs.size := F.ns.lt
  replace F := F.keeps kp₁
  obtain ⟨vW, qW, eW, iW⟩ := hW
  obtain ⟨vO, qO, eO, iO⟩ := hO
  have new : ∀ {b : Addr}, @LE.le Nat _ h.objs.size b → b ≠ L ∧ s.heap.get? b = none := fun {b} hb => ⟨Nat.ne_of_gt (Nat.lt_of_lt_of_le hsL hb), by
    cases e : s.heap.get? b with
    | none => rfl
    | some o => exact absurd (Heap.lt_size e) (Nat.not_lt.mpr (Nat.le_trans (Nat.le_trans hL (Nat.le_of_lt hsL)) hb))⟩
  have lO : @LE.le Nat _ h.objs.size aO := Nat.le_trans lW (Nat.le_of_lt lWO)
  have hWO : aW ≠ aO := Nat.ne_of_lt lWO
  have gWO : ∀ b ∈ [aW, aO], s.heap.get? b = none := fun b hb => by
    rcases List.mem_cons.mp hb with q | q
    · rw [q]; exact (new lW).2
    · rw [List.mem_singleton.mp q]; exact (new lO).2
  have LWO : L ∉ [aW, aO] := by
    simp only [List.mem_cons, List.not_mem_nil, or_false, not_or]
    exact ⟨Ne.symm (new lW).1, Ne.symm (new lO).1⟩
  have xW : x ≠ aW ∧ x ≠ aO := ⟨ne_obj hx eW (fun q => nomatch q), ne_obj hx eO (fun q => nomatch q)⟩
  have dW : dx ≠ aW ∧ dx ≠ aO := ⟨ne_obj hdx eW (fun q => nomatch q), ne_obj hdx eO (fun q => nomatch q)⟩
  replace N : News s.heap L s₁.heap [(x, instObj 120 dx), (dx, dictOf (tEs w.params t₁ t₂ t₃ t₄ t₅ (n : Nat) aW aO aM) 4), (aW, listOf vW.toArray qW), (aO, listOf vO.toArray qO)] :=
    news_cons (news_cons (news_cons (news_cons News.nil eO (new lO).1 (new lO).2) eW (new lW).1 (new lW).2) hdx (new ldx).1 (new ldx).2) hx (new lx).1 (new lx).2
  clear hx hdx eW eO new lx ldx lW lO lWO lOM
  (repeat (first | with_reducible refine wpAny_execs_cons ?_ | ((with_reducible show wpAny _ _ (storeName _ _ _) _ _ _); (refine r_store F N ?_ rfl rfl; clear F N; intro h tk F N hg))))
  refine wpAny_For ?_ (fun _ => rfl)
  (repeat (first | ((with_reducible show wpAny _ _ (eval (Expr.Name _ _) _) _ _ _); (first | (refine nameX_L (v := _) F (by (repeat (first | with_reducible assumption | with_reducible exact up_eq _ _ _ | refine (up_ne (by decide)).trans ?_ | exact rfl))) ?_ rfl rfl (by decide)) | (refine nameX_C (c := _) (o := _) (v := _) N rfl (by k_mem) (by assumption) ?_ rfl rfl (by decide)) | (refine r_glob G F (by k_is) ?_ rfl rfl (by decide)) | (refine r_boot G F (by boot_fast) (by k_is) (by decide) ?_ rfl rfl (by decide))))))
  have ne := news_ne N
  have nx : x ≠ h.objs.size := ne _ (.head _)
  have nd : dx ≠ h.objs.size := ne _ (.tail _ (.head _))
  have nW : aW ≠ h.objs.size := ne _ (.tail _ (.tail _ (.head _)))
  have nO : aO ≠ h.objs.size := ne _ (.tail _ (.tail _ (.tail _ (.head _))))
  have hIL := ne_frame F
  have hIg := fresh_of F.keep
  clear ne
  refine for_list (items := cvs.toArray) (fun i m s' => Same s s' ∧ m "trail" = some (.ref x) ∧ m "clauses" = some (.ref a) ∧ ∃ W O vW qW vO qO,
      News s.heap L s'.heap [(x, instObj 120 dx), (dx, dictOf (tEs w.params t₁ t₂ t₃ t₄ t₅ (n : Nat) aW aO aM) 4), (aW, listOf (List.toArray vW) qW), (aO, listOf (List.toArray vO) qO)] ∧ IntsAre vW W ∧ IntsAre vO O ∧ Tr n W O ∧ assumeF cl (List.replicate (n + 1) 0) [] = assumeF (cl.drop i) W O)
    R.handled (stays_list F.keep hc) hcL rfl rfl F ?_ ?_ ?_ ?_
  · intro h' tk' kp
    exact ⟨((Same.of _ _ _).trans sm₁).set _ _, up_eq _ _ _, (up_ne (by decide)).trans rfl, _, _, _, _, _, _, N.grown kp, iW, iO, start_tr n, rfl⟩
  · rintro i m s₂ h' tk' ⟨a1, b1, c1, W, O, vW, qW, vO, qO, N', d⟩ kp
    exact ⟨a1.set _ _, b1, c1, W, O, vW, qW, vO, qO, news_move N' (mem4 (P := fun b => b ≠ _) nx nd nW nO) kp, d⟩
  · rintro i y m s₂ E₂ hy ⟨hs₂, hm1, hm2, W, O, vW, qW, vO, qO, N, iW, iO, tr, has⟩ F - ⟨oI, hoI⟩
    obtain ⟨tl, rfl, hlt⟩ := ints_at hci hy
    replace F : Fr s.heap L s₂.heap (up m "lit" (.int (cl.getD i 0) tl)) := F
    have hvl := hv _ (getD_mem hlt)
    have ol := tr.length_le
    rw [drop_getI hlt] at has
    generalize cl.getD i 0 = l at *
    replace N := news_cons N hoI hIL hIg
    have kg : ∀ {h' : Heap} {m' : Str → Option Value}, Fr s.heap L h' m' → ∀ o, s₂.heap.get? c = some o → h'.get? c = some o := fun F' => kept_g F F' hc
    obtain ⟨I, hI⟩ : ∃ I, I = h.objs.size := ⟨_, rfl⟩
    rw [← hI] at N hIL hIg nx nd nW nO hoI ⊢
    (repeat (first | with_reducible refine wpAny_execs_cons ?_ | ((with_reducible show wpAny _ _ (eval (Expr.Name _ _) _) _ _ _); (first | (refine nameX_L (v := _) F (by (repeat (first | with_reducible assumption | with_reducible exact up_eq _ _ _ | refine (up_ne (by decide)).trans ?_ | exact rfl))) ?_ rfl rfl (by decide)) | (refine nameX_C (c := _) (o := _) (v := _) N rfl (by k_mem) (by assumption) ?_ rfl rfl (by decide)) | (refine r_glob G F (by k_is) ?_ rfl rfl (by decide)) | (refine r_boot G F (by boot_fast) (by k_is) (by decide) ?_ rfl rfl (by decide)))) | (with_reducible refine MethodCall_ (pl := _) ?_ (by with_unfolding_all rfl)) | (with_reducible refine wpAny_Assign_Name ?_ (by with_unfolding_all rfl))))
    refine r_meth (f := _) G F (N.get (by k_mem)) (N.get (by k_mem)) (by k_is) (by k_is) (by k_is) rfl ?_
    (repeat (first | ((with_reducible show wpAny _ _ (eval (Expr.Name _ _) _) _ _ _); (first | (refine nameX_L (v := _) F (by (repeat (first | with_reducible assumption | with_reducible exact up_eq _ _ _ | refine (up_ne (by decide)).trans ?_ | exact rfl))) ?_ rfl rfl (by decide)) | (refine nameX_C (c := _) (o := _) (v := _) N rfl (by k_mem) (by assumption) ?_ rfl rfl (by decide)) | (refine r_glob G F (by k_is) ?_ rfl rfl (by decide)) | (refine r_boot G F (by boot_fast) (by k_is) (by decide) ?_ rfl rfl (by decide)))) | (with_reducible refine args_cons ?_ rfl) | (with_reducible refine args_nil ?_) | ((with_reducible show Keep _ _ ∧ _); refine And.intro F.keep ?_) | ((with_reducible show wpAny _ _ (callWith _ (Value.ref _) (_ :: _) (backTo _ (starEach (_ :: _) _)) []) _ _ _); refine r_callm G (by k_is) ?_ rfl rfl)))
    refine value_ok (G.keeps F.keep) ((R.less (by decide)).deeper _) ⟨dx, t₁, t₂, t₃, t₄, t₅, N.get (by k_mem), N.get (by k_mem)⟩ ⟨_, _, N.get (by k_mem), iW⟩ hvl tr.len hn3 (fun t' s₃ sm₃ kp₃ => ?_)
    replace F := F.keeps kp₃
    replace N := N.grown kp₃
    (repeat (first | with_reducible refine wpAny_execs_cons ?_ | with_reducible refine wpAny_If ?_ | (with_reducible refine wpAny_isTrue_Compare1 ?_ (by with_unfolding_all rfl)) | with_reducible refine wpAny_Constant_int ?_ | with_reducible refine eq_int ?_ | with_reducible refine wpAny_truthy_bool ?_ | ((with_reducible show wpAny _ _ (eval (Expr.Name _ _) _) _ _ _); (first | (refine nameX_L (v := _) F (by (repeat (first | with_reducible assumption | with_reducible exact up_eq _ _ _ | refine (up_ne (by decide)).trans ?_ | exact rfl))) ?_ rfl rfl (by decide)) | (refine nameX_C (c := _) (o := _) (v := _) N rfl (by k_mem) (by assumption) ?_ rfl rfl (by decide)) | (refine r_glob G F (by k_is) ?_ rfl rfl (by decide)) | (refine r_boot G F (by boot_fast) (by k_is) (by decide) ?_ rfl rfl (by decide)))) | ((with_reducible show wpAny _ _ (storeName _ _ _) _ _ _); (refine r_store F N ?_ rfl rfl; clear F N; intro h tk F N hg))))
    refine split_bool (fun hc1 => ?_) (fun hc1 => ?_)
    · have hc' : litVal l W = 1 := by simpa using hc1
      (repeat (first | with_reducible refine wpAny_execs_cons ?_ | with_reducible refine wpAny_Return_some ?_ | with_reducible refine Constant_bool ?_))
      rw [assumeF, if_pos hc'] at has
      have e : followsF css n cl = true := by unfold followsF; rw [has]
      rw [e] at ret
      exact ret _ ((hs₂.trans sm₃).set _ _) F.keep
    · have hc' : ¬ litVal l W = 1 := by simpa using hc1
      rw [assumeF, if_neg hc'] at has
      (repeat (first | with_reducible refine wpAny_execs_cons ?_ | with_reducible refine wpAny_execs_nil ?_ | with_reducible refine wpAny_If ?_ | (with_reducible refine wpAny_isTrue_Compare1 ?_ (by with_unfolding_all rfl)) | with_reducible refine wpAny_Constant_int ?_ | with_reducible refine eq_int ?_ | with_reducible refine wpAny_truthy_bool ?_ | ((with_reducible show wpAny _ _ (eval (Expr.Name _ _) _) _ _ _); (first | (refine nameX_L (v := _) F (by (repeat (first | with_reducible assumption | with_reducible exact up_eq _ _ _ | refine (up_ne (by decide)).trans ?_ | exact rfl))) ?_ rfl rfl (by decide)) | (refine nameX_C (c := _) (o := _) (v := _) N rfl (by k_mem) (by assumption) ?_ rfl rfl (by decide)) | (refine r_glob G F (by k_is) ?_ rfl rfl (by decide)) | (refine r_boot G F (by boot_fast) (by k_is) (by decide) ?_ rfl rfl (by decide))))))
      refine split_bool (fun hc0 => ?_) (fun hc0 => ?_)
      · have h0 : litVal l W = 0 := by simpa using hc0
        rw [if_pos h0] at has
        (repeat (first | with_reducible refine wpAny_execs_cons ?_ | ((with_reducible show wpAny _ _ (eval (Expr.Name _ _) _) _ _ _); (first | (refine nameX_L (v := _) F (by (repeat (first | with_reducible assumption | with_reducible exact up_eq _ _ _ | refine (up_ne (by decide)).trans ?_ | exact rfl))) ?_ rfl rfl (by decide)) | (refine nameX_C (c := _) (o := _) (v := _) N rfl (by k_mem) (by assumption) ?_ rfl rfl (by decide)) | (refine r_glob G F (by k_is) ?_ rfl rfl (by decide)) | (refine r_boot G F (by boot_fast) (by k_is) (by decide) ?_ rfl rfl (by decide)))) | (with_reducible refine wpAny_Expr ?_ (by with_unfolding_all rfl) (by with_unfolding_all rfl)) | (with_reducible refine MethodCall_ (pl := _) ?_ (by with_unfolding_all rfl))))
        refine r_meth (f := _) G F (N.get (by k_mem)) (N.get (by k_mem)) (by k_is) (by k_is) (by k_is) rfl ?_
        (repeat (first | with_reducible refine UnaryOp_ ?_ | with_reducible refine P.neg_int ?_ | ((with_reducible show wpAny _ _ (eval (Expr.Name _ _) _) _ _ _); (first | (refine nameX_L (v := _) F (by (repeat (first | with_reducible assumption | with_reducible exact up_eq _ _ _ | refine (up_ne (by decide)).trans ?_ | exact rfl))) ?_ rfl rfl (by decide)) | (refine nameX_C (c := _) (o := _) (v := _) N rfl (by k_mem) (by assumption) ?_ rfl rfl (by decide)) | (refine r_glob G F (by k_is) ?_ rfl rfl (by decide)) | (refine r_boot G F (by boot_fast) (by k_is) (by decide) ?_ rfl rfl (by decide)))) | (with_reducible refine args_cons ?_ rfl) | (with_reducible refine args_nil ?_) | ((with_reducible show Keep _ _ ∧ _); refine And.intro F.keep ?_) | ((with_reducible show wpAny _ _ (callWith _ (Value.ref _) (_ :: _) (backTo _ (starEach (_ :: _) _)) []) _ _ _); refine r_callm G (by k_is) ?_ rfl rfl)))
        refine assign_ok (G.keeps (keep_hid F.keep gWO)) ((R.less (by decide)).deeper _) ⟨dx, t₁, t₂, t₃, t₄, t₅, N.get (by k_mem), N.get (by k_mem)⟩ hWO ⟨_, _, N.get (by k_mem), iW⟩ ⟨_, _, N.get (by k_mem), iO⟩ hvl.neg tr.len hn3 (by (first | lia | omega)) (fun s₅ sm₅ kp₅ hW₅ hO₅ => ?_)
        obtain ⟨vW₅, qW₅, eW₅, iW₅⟩ := hW₅
        obtain ⟨vO₅, qO₅, eO₅, iO₅⟩ := hO₅
        replace F := fr_hid F kp₅ gWO LWO
        replace N := news_wo [(I, oI), (x, instObj 120 dx), (dx, dictOf (tEs w.params t₁ t₂ t₃ t₄ t₅ (n : Nat) aW aO aM) 4)] N kp₅ (mem3 (P := fun b => b ≠ aW ∧ b ≠ aO) ⟨Ne.symm nW, Ne.symm nO⟩ xW dW) eW₅ eO₅
        show wpAny _ _ _ _ _ _
        (repeat (first | with_reducible refine wpAny_execs_nil ?_))
        exact ⟨_, F, news_at N (.head _) hoI, kg F, (((hs₂.trans sm₃).set _ _).trans sm₅), (up_ne (by decide)).trans ((up_ne (by decide)).trans hm1), (up_ne (by decide)).trans ((up_ne (by decide)).trans hm2), _, _, _, _, _, _, news_sub N (fun p hp => List.mem_cons_of_mem _ hp), iW₅, iO₅, tr.snoc hvl.neg (by rw [litVal_neg hvl.1, h0]; rfl), has⟩
      · have h0 : ¬ litVal l W = 0 := by simpa using hc0
        rw [if_neg h0] at has
        (repeat (first | with_reducible refine wpAny_execs_nil ?_))
        exact ⟨_, F, news_at N (.head _) hoI, kg F, (hs₂.trans sm₃).set _ _, (up_ne (by decide)).trans ((up_ne (by decide)).trans hm1), (up_ne (by decide)).trans ((up_ne (by decide)).trans hm2), _, _, _, _, _, _, news_sub N (fun p hp => List.mem_cons_of_mem _ hp), iW, iO, tr, has⟩
  · rintro m s₂ ⟨hs₂, hm1, hm2, W, O, vW, qW, vO, qO, N, iW, iO, tr, has⟩ F
    rw [hcsz, List.drop_length] at has
    replace has : assumeF cl (List.replicate (n + 1) 0) [] = some (W, O) := has
    show wpAny _ _ _ _ _ _
    (repeat (first | with_reducible refine wpAny_execs_cons ?_ | with_reducible refine wpAny_Return_some ?_ | with_reducible refine UnaryOp_ ?_ | ((with_reducible show wpAny _ _ (eval (Expr.Name _ _) _) _ _ _); (first | (refine nameX_L (v := _) F (by (repeat (first | with_reducible assumption | with_reducible exact up_eq _ _ _ | refine (up_ne (by decide)).trans ?_ | exact rfl))) ?_ rfl rfl (by decide)) | (refine nameX_C (c := _) (o := _) (v := _) N rfl (by k_mem) (by assumption) ?_ rfl rfl (by decide)) | (refine r_glob G F (by k_is) ?_ rfl rfl (by decide)) | (refine r_boot G F (by boot_fast) (by k_is) (by decide) ?_ rfl rfl (by decide)))) | (with_reducible refine args_cons ?_ rfl) | (with_reducible refine args_nil ?_) | ((with_reducible show Keep _ _ ∧ _); refine And.intro F.keep ?_) | ((with_reducible show wpAny _ _ (callWith _ (Value.ref _) [] _ []) _ _ _); refine r_callf G (by k_is) ?_ rfl rfl) | (with_reducible refine Call_ ?_ rfl)))
    refine propagate_ok (G.keeps (keep_hid F.keep gWO)) ((R.less (by decide)).deeper _) ⟨dx, t₁, t₂, t₃, t₄, t₅, N.get (by k_mem), N.get (by k_mem)⟩ hWO ⟨_, _, N.get (by k_mem), iW⟩ ⟨_, _, N.get (by k_mem), iO⟩ (hcs.keep (keep_hid F.keep gWO)) S tr (fun s₃ sm₃ kp₃ _ _ => ?_)
    replace F := fr_hid F kp₃ gWO LWO
    refine not_of ?_
    refine wpAny_truthy_bool ?_
    have e : followsF css n cl = !(propF (n + 1) css W O).2.2 := by unfold followsF; rw [has]
    rw [e] at ret
    exact ret _ ((hs₂.set _ _).trans sm₃) F.keep
end
end Mine
namespace Mine
section
variable {prog : Program} {w : World} {A : Around} {E : Value → Shared → Prop} {s : Shared} {p : Program} {loose : List Str} {mg mb : Str → Option Value}

theorem Small.take {n : Nat} {css pr : List (List Int)} (S : Small n (css ++ pr)) (i : Nat) : Small n (css ++ pr.take i) :=
  have key : ∀ c ∈ css ++ pr.take i, c ∈ css ++ pr := fun c hc => (List.mem_append.mp hc).elim (fun q => List.mem_append_left _ q) fun q => List.mem_append_right _ (List.mem_of_mem_take q)
  ⟨fun c hc => S.val c (key c hc), S.n3, Nat.le_trans (by simp only [List.length_append, List.length_take]; (first | lia | omega)) S.len, fun c hc => S.each c (key c hc)⟩
theorem Small.left {n : Nat} {css pr : List (List Int)} (S : Small n (css ++ pr)) : Small n css := by
  have := S.take 0
  rwa [List.take_zero, List.append_nil] at this

theorem checks_ok {Q : Value → Shared → Prop} {a b : Addr} {css pr : List (List Int)} {n : Nat} {t : Tok}
    (G : Gd (hd.heap_39 w.params) p loose mg mb s.heap) (R : Room A 5) (hcs : IsLL s.heap a css) (hpr : IsLL s.heap b pr) (S : Small n (css ++ pr))
    (ret : ∀ s', Same s s' → Keep s.heap s'.heap → Q (.bool (checksF css n pr)) s') :
    wpAny (model prog w) A (call (.ref 145) [.ref a, .int (n : Nat) t, .ref b]) Q E s := by
  obtain ⟨cvs, hca, hcp⟩ := hcs
  obtain ⟨pvs, hpa, hpp⟩ := hpr
  have hlen := S.len
  rw [List.length_append] at hlen
  have hpl : pvs.length = pr.length := paired_len hpp
  have hpz : pvs.toArray.size = pr.length := by simp [hpl]
  refine enter (g := s.heap) (binds := [("clauses", .ref a), ("n", .int (n : Nat) t), ("proof", .ref b)]) G (Keep.refl _) (Nat.le_refl _) (by k_is) (by k_is) R.room (BindsTo.of_eq rfl) (locs rfl) ?_ rfl rfl rfl (by decide)
  intro L h tk F hk hL
  have N : News s.heap L h [] := News.nil
  have hbL : b ≠ L := Nat.ne_of_lt (Nat.lt_of_lt_of_le (list_lt hpa) hL)
  (repeat (first | with_reducible refine wpAny_execs_cons ?_ | ((with_reducible show wpAny _ _ (eval (Expr.Name _ _) _) _ _ _); (first | (refine nameX_L (v := _) F (by (repeat (first | with_reducible assumption | with_reducible exact up_eq _ _ _ | refine (up_ne (by decide)).trans ?_ | exact rfl))) ?_ rfl rfl (by decide)) | (refine nameX_C (c := _) (o := _) (v := _) N rfl (by k_mem) (by assumption) ?_ rfl rfl (by decide)) | (refine r_glob G F (by k_is) ?_ rfl rfl (by decide)) | (refine r_boot G F (by boot_fast) (by k_is) (by decide) ?_ rfl rfl (by decide)))) | (with_reducible refine args_cons ?_ rfl) | (with_reducible refine args_nil ?_) | ((with_reducible show wpAny _ _ (callWith _ (Value.type _) [] _ []) _ _ _); refine Pv.callWith_type1 ?_ rfl rfl) | (with_reducible refine Call_ ?_ rfl) | (with_reducible refine wpAny_Assign_Name ?_ (by with_unfolding_all rfl))))
  refine r_copy (stays_list F.keep hca) (by simp only [List.size_toArray]; rw [paired_len hcp]; exact Nat.le_trans (Nat.le_trans (Nat.le_add_right _ _) hlen) (by decide)) (fun h₁ q k e => ?_)
  replace N := news_cons (N.grown k) e (ne_frame F) (fresh_of F.keep)
  replace F := F.keeps k
  obtain ⟨D, hD⟩ : ∃ D, D = h.objs.size := ⟨_, rfl⟩
  rw [← hD] at N ⊢
  clear e k hD
  (repeat (first | with_reducible refine wpAny_execs_cons ?_ | ((with_reducible show wpAny _ _ (storeName _ _ _) _ _ _); (refine r_store F N ?_ rfl rfl; clear F N; intro h tk F N hg))))
  refine wpAny_For ?_ (fun _ => rfl)
  (repeat (first | ((with_reducible show wpAny _ _ (eval (Expr.Name _ _) _) _ _ _); (first | (refine nameX_L (v := _) F (by (repeat (first | with_reducible assumption | with_reducible exact up_eq _ _ _ | refine (up_ne (by decide)).trans ?_ | exact rfl))) ?_ rfl rfl (by decide)) | (refine nameX_C (c := _) (o := _) (v := _) N rfl (by k_mem) (by assumption) ?_ rfl rfl (by decide)) | (refine r_glob G F (by k_is) ?_ rfl rfl (by decide)) | (refine r_boot G F (by boot_fast) (by k_is) (by decide) ?_ rfl rfl (by decide))))))
  have nD : D ≠ h.objs.size := news_ne N _ (.head _)
  have hIL := ne_frame F
  have hIg := fresh_of F.keep
  refine for_list (items := pvs.toArray) (fun i m s' => Same s s' ∧ m "known" = some (.ref D) ∧ m "n" = some (.int (n : Nat) t) ∧ m "proof" = some (.ref b) ∧ ∃ vK qK, News s.heap L s'.heap [(D, listOf (List.toArray vK) qK)] ∧ Paired (IsI s.heap) vK (css ++ pr.take i) ∧
      stepsF n css pr = stepsF n (css ++ pr.take i) (pr.drop i))
    R.handled (stays_list F.keep hpa) hbL rfl rfl F ?_ ?_ ?_ ?_
  · intro h' tk' kp
    exact ⟨Same.of _ _ _, up_eq _ _ _, (up_ne (by decide)).trans rfl, (up_ne (by decide)).trans rfl, cvs, _, N.grown kp, by simpa using hcp, by simp⟩
  · rintro i m s₂ h' tk' ⟨a1, b1, c1, d1, vK, qK, N', d⟩ kp
    exact ⟨a1.set _ _, b1, c1, d1, vK, qK, news_move N' (fun p hp => by rw [List.mem_singleton.mp hp]; exact nD) kp, d⟩
  · rintro i y m s₂ E₂ hy ⟨hs₂, hm1, hm2, hm3, vK, qK, N, hpk, hst⟩ F - ⟨oI, hoI⟩
    obtain ⟨c, its, cl, rfl, hci, hmem, hbl, hbi⟩ := ll_at hpp hy
    replace F : Fr s.heap L s₂.heap (up m "step" (.ref c)) := F
    have kg : ∀ {h' : Heap} {m' : Str → Option Value}, Fr s.heap L h' m' → ∀ o, s₂.heap.get? b = some o → h'.get? b = some o := fun F' => kept_g F F' hpa
    replace N := news_cons N hoI hIL hIg
    have hkl : vK.length ≤ 1000 := by rw [paired_len hpk]; exact (S.take i).len
    rw [drop_at hci, stepsF] at hst
    obtain ⟨I, hI⟩ : ∃ I, I = h.objs.size := ⟨_, rfl⟩
    rw [← hI] at N hIL hIg nD hoI ⊢
    (repeat (first | with_reducible refine wpAny_execs_cons ?_ | with_reducible refine wpAny_If ?_ | with_reducible refine isTrue_not ?_ | ((with_reducible show wpAny _ _ (eval (Expr.Name _ _) _) _ _ _); (first | (refine nameX_L (v := _) F (by (repeat (first | with_reducible assumption | with_reducible exact up_eq _ _ _ | refine (up_ne (by decide)).trans ?_ | exact rfl))) ?_ rfl rfl (by decide)) | (refine nameX_C (c := _) (o := _) (v := _) N rfl (by k_mem) (by assumption) ?_ rfl rfl (by decide)) | (refine r_glob G F (by k_is) ?_ rfl rfl (by decide)) | (refine r_boot G F (by boot_fast) (by k_is) (by decide) ?_ rfl rfl (by decide)))) | (with_reducible refine args_cons ?_ rfl) | (with_reducible refine args_nil ?_) | ((with_reducible show Keep _ _ ∧ _); refine And.intro F.keep ?_) | ((with_reducible show wpAny _ _ (callWith _ (Value.ref _) [] _ []) _ _ _); refine r_callf G (by k_is) ?_ rfl rfl) | (with_reducible refine Call_ ?_ rfl) | (with_reducible refine isTrue_plain ?_ (by with_unfolding_all rfl))))
    refine follows_ok (G.keeps F.keep) (R.deeper _) ⟨vK, IsL.isList (N.get (by k_mem)), hpk.mono fun _ _ q => q.keep F.keep⟩ (S.take i) (stays_list F.keep hbl) hbi (S.val cl (List.mem_append_right _ hmem)) (fun s₃ sm₃ kp₃ => ?_)
    replace F := F.keeps kp₃
    replace N := N.grown kp₃
    (repeat (first | with_reducible refine wpAny_truthy_bool ?_))
    refine split_bool (fun hc => ?_) (fun hc => ?_)
    · have hc' : followsF (css ++ pr.take i) n cl = false := by simpa using hc
      (repeat (first | with_reducible refine wpAny_execs_cons ?_ | with_reducible refine wpAny_Return_some ?_ | with_reducible refine Constant_bool ?_))
      rw [hc', if_neg (by decide)] at hst
      have e : checksF css n pr = false := by unfold checksF; rw [hst]; rfl
      rw [e] at ret
      exact ret _ ((hs₂.set _ _).trans sm₃) F.keep
    · have hc' : followsF (css ++ pr.take i) n cl = true := by simpa using hc
      rw [hc', if_pos rfl, List.append_assoc, ← take_at hci] at hst
      (repeat (first | with_reducible refine wpAny_execs_cons ?_ | with_reducible refine wpAny_execs_nil ?_ | ((with_reducible show wpAny _ _ (eval (Expr.Name _ _) _) _ _ _); (first | (refine nameX_L (v := _) F (by (repeat (first | with_reducible assumption | with_reducible exact up_eq _ _ _ | refine (up_ne (by decide)).trans ?_ | exact rfl))) ?_ rfl rfl (by decide)) | (refine nameX_C (c := _) (o := _) (v := _) N rfl (by k_mem) (by assumption) ?_ rfl rfl (by decide)) | (refine r_glob G F (by k_is) ?_ rfl rfl (by decide)) | (refine r_boot G F (by boot_fast) (by k_is) (by decide) ?_ rfl rfl (by decide)))) | (with_reducible refine args_cons ?_ rfl) | (with_reducible refine args_nil ?_) | ((with_reducible show wpAny _ _ (callWith _ (Value.builtin _) (_ :: _) _ []) _ _ _); refine callWith_method1 ?_ rfl rfl) | (with_reducible refine wpAny_Expr ?_ (by with_unfolding_all rfl) (by with_unfolding_all rfl)) | (with_reducible refine MethodCall_ (pl := _) ?_ (by with_unfolding_all rfl)) | ((with_reducible show wpAny _ _ (getMethod (Value.ref _) (Str.ofString "append") _) _ _ _); refine Calls.getMethod_list_append (o := _) (N.get (by k_mem)) rfl rfl ?_)))
      refine r_append F N (Upd.tail (Ne.symm nD) (Upd.head (by simp))) (by (first | lia | omega)) (fun h₅ F N sb => ?_)
      show wpAny _ _ _ _ _ _
      (repeat (first | with_reducible refine wpAny_execs_nil ?_))
      exact ⟨_, F, news_at N (.head _) hoI, kg F, (hs₂.trans sm₃).set _ _, (up_ne (by decide)).trans hm1, (up_ne (by decide)).trans hm2, (up_ne (by decide)).trans hm3, _, _, news_sub N (fun p hp => List.mem_cons_of_mem _ hp), by rw [take_at hci, ← List.append_assoc]; exact hpk.snoc ⟨c, its, rfl, hbl, hbi⟩, hst⟩
  · rintro m s₂ ⟨hs₂, hm1, hm2, hm3, vK, qK, N, hpk, hst⟩ F
    rw [hpz, List.drop_length] at hst
    replace hst : stepsF n css pr = true := hst
    have e : checksF css n pr = (decide (0 < pr.length) && decide ((pr.getLastD []).length = 0)) := by unfold checksF; rw [hst]; rfl
    rw [e] at ret
    show wpAny _ _ _ _ _ _
    refine wpAny_execs_cons ?_
    refine wpAny_Return_some ?_
    refine BoolOp_and ?_
    (repeat (first | (with_reducible refine wpAny_Compare1 ?_ (by with_unfolding_all rfl)) | ((with_reducible show wpAny _ _ (eval (Expr.Name _ _) _) _ _ _); (first | (refine nameX_L (v := _) F (by (repeat (first | with_reducible assumption | with_reducible exact up_eq _ _ _ | refine (up_ne (by decide)).trans ?_ | exact rfl))) ?_ rfl rfl (by decide)) | (refine nameX_C (c := _) (o := _) (v := _) N rfl (by k_mem) (by assumption) ?_ rfl rfl (by decide)) | (refine r_glob G F (by k_is) ?_ rfl rfl (by decide)) | (refine r_boot G F (by boot_fast) (by k_is) (by decide) ?_ rfl rfl (by decide)))) | (with_reducible refine args_cons ?_ rfl) | (with_reducible refine args_nil ?_) | ((with_reducible show wpAny _ _ (callWith _ (Value.builtin _) [] _ []) _ _ _); refine callWith_builtin1 ?_ rfl rfl) | (with_reducible refine Call_ ?_ rfl)))
    refine r_len (n := pr.length) (stays_list F.keep hpa) hpl (by (first | lia | omega)) (fun tl tk => ?_)
    (repeat (first | with_reducible refine wpAny_Constant_int ?_ | with_reducible refine gt_int ?_ | with_reducible refine wpAny_truthy_bool ?_))
    refine split_bool (fun hc => ?_) (fun hc => ?_)
    · have hc' : 0 < pr.length := by simpa using hc
      obtain ⟨c, hci⟩ : ∃ c, pr[pr.length - 1]? = some c := ⟨_, List.getElem?_eq_getElem (Nat.sub_lt hc' (by decide))⟩
      obtain ⟨v, hvi⟩ : ∃ v, pvs[pvs.length - 1]? = some v := ⟨_, List.getElem?_eq_getElem (Nat.sub_lt (by rw [hpl]; exact hc') (by decide))⟩
      obtain ⟨c', hci', d, its, rfl, hbl, hbi⟩ := paired_at hpp hvi
      rw [hpl, hci] at hci'; cases hci'
      have hl : pr.getLastD [] = c := by rw [List.getLastD_eq_getLast?, List.getLast?_eq_getElem?, hci]; rfl
      have hcl := S.each c (List.mem_append_right _ (List.mem_of_getElem? hci))
      rw [hl] at ret
      refine BoolOp_one ?_
      (repeat (first | (with_reducible refine wpAny_Compare1 ?_ (by with_unfolding_all rfl)) | with_reducible refine UnaryOp_ ?_ | with_reducible refine wpAny_Constant_int ?_ | with_reducible refine Subscript_ ?_ | with_reducible refine P.neg_int ?_ | ((with_reducible show wpAny _ _ (eval (Expr.Name _ _) _) _ _ _); (first | (refine nameX_L (v := _) F (by (repeat (first | with_reducible assumption | with_reducible exact up_eq _ _ _ | refine (up_ne (by decide)).trans ?_ | exact rfl))) ?_ rfl rfl (by decide)) | (refine nameX_C (c := _) (o := _) (v := _) N rfl (by k_mem) (by assumption) ?_ rfl rfl (by decide)) | (refine r_glob G F (by k_is) ?_ rfl rfl (by decide)) | (refine r_boot G F (by boot_fast) (by k_is) (by decide) ?_ rfl rfl (by decide)))) | (with_reducible refine args_cons ?_ rfl) | ((with_reducible show wpAny _ _ (callWith _ (Value.builtin _) [] _ []) _ _ _); refine callWith_builtin1 ?_ rfl rfl) | (with_reducible refine Call_ ?_ rfl)))
      refine r_lastV (stays_list F.keep hpa) (by rw [hpl]; exact hc') hvi ?_ (by with_unfolding_all rfl)
      (repeat (first | (with_reducible refine args_nil ?_)))
      refine r_len (n := c.length) (stays_list F.keep hbl) hbi.length (by (first | lia | omega)) (fun tl tk => ?_)
      (repeat (first | with_reducible refine wpAny_Constant_int ?_ | with_reducible refine eq_int ?_))
      rw [decide_eq_true hc', Bool.true_and] at ret
      have e2 : (((c.length : Nat) : Int) == 0) = decide (c.length = 0) := by
        by_cases q : c.length = 0 <;> simp [q]
      rw [← e2] at ret
      exact ret _ (hs₂.set _ _) F.keep
    · have hc' : ¬ 0 < pr.length := by simpa using hc
      rw [decide_eq_false hc', Bool.false_and] at ret
      have e2 : decide ((0 : Int) < ((pr.length : Nat) : Int)) = false := by simpa using hc
      rw [← e2] at ret
      exact ret _ (hs₂.set _ _) F.keep

theorem sound_ok {Q : Value → Shared → Prop} {a b : Addr} {css pr : List (List Int)} {n : Nat} {t : Tok}
    (G : Gd (hd.heap_39 w.params) p loose mg mb s.heap) (R : Room A 6) (hcs : IsLL s.heap a css) (hpr : IsLL s.heap b pr) (S : Small n (css ++ pr))
    (ret : ∀ s', Same s s' → Keep s.heap s'.heap → Q (.bool true) s') :
    wpAny (model prog w) A (call (.ref 152) [.ref a, .int (n : Nat) t, .ref b]) Q E s := by
  have hsound : (!checksF css n pr || !truthTable css n) = true := checker_sound (fun c hc => S.val c (List.mem_append_left _ hc)) (fun c hc => S.val c (List.mem_append_right _ hc))
  refine enter (g := s.heap) (binds := [("clauses", .ref a), ("n", .int (n : Nat) t), ("proof", .ref b)]) G (Keep.refl _) (Nat.le_refl _) (by k_is) (by k_is) R.room (BindsTo.of_eq rfl) (locs rfl) ?_ rfl rfl rfl (by decide)
  intro L h tk F hk hL
  have N : News s.heap L h [] := News.nil
  refine wpAny_execs_cons ?_
  refine wpAny_Return_some ?_
  refine BoolOp_or ?_
  (repeat (first | with_reducible refine UnaryOp_ ?_ | ((with_reducible show wpAny _ _ (eval (Expr.Name _ _) _) _ _ _); (first | (refine nameX_L (v := _) F (by (repeat (first | with_reducible assumption | with_reducible exact up_eq _ _ _ | refine (up_ne (by decide)).trans ?_ | exact rfl))) ?_ rfl rfl (by decide)) | (refine nameX_C (c := _) (o := _) (v := _) N rfl (by k_mem) (by assumption) ?_ rfl rfl (by decide)) | (refine r_glob G F (by k_is) ?_ rfl rfl (by decide)) | (refine r_boot G F (by boot_fast) (by k_is) (by decide) ?_ rfl rfl (by decide)))) | (with_reducible refine args_cons ?_ rfl) | (with_reducible refine args_nil ?_) | ((with_reducible show Keep _ _ ∧ _); refine And.intro F.keep ?_) | ((with_reducible show wpAny _ _ (callWith _ (Value.ref _) [] _ []) _ _ _); refine r_callf G (by k_is) ?_ rfl rfl) | (with_reducible refine Call_ ?_ rfl)))
  refine checks_ok (G.keeps F.keep) (R.deeper _) (hcs.keep F.keep) (hpr.keep F.keep) S (fun s₁ sm₁ kp₁ => ?_)
  replace F := F.keeps kp₁
  refine not_of ?_
  refine wpAny_truthy_bool ?_
  refine wpAny_truthy_bool ?_
  cases hb : checksF css n pr with
  | false =>
    exact ret _ ((Same.of _ _ _).trans sm₁) F.keep
  | true =>
    rw [hb, Bool.not_true, Bool.false_or] at hsound
    replace N := N.grown kp₁
    show wpAny _ _ _ _ _ _
    refine BoolOp_one ?_
    (repeat (first | with_reducible refine UnaryOp_ ?_ | ((with_reducible show wpAny _ _ (eval (Expr.Name _ _) _) _ _ _); (first | (refine nameX_L (v := _) F (by (repeat (first | with_reducible assumption | with_reducible exact up_eq _ _ _ | refine (up_ne (by decide)).trans ?_ | exact rfl))) ?_ rfl rfl (by decide)) | (refine nameX_C (c := _) (o := _) (v := _) N rfl (by k_mem) (by assumption) ?_ rfl rfl (by decide)) | (refine r_glob G F (by k_is) ?_ rfl rfl (by decide)) | (refine r_boot G F (by boot_fast) (by k_is) (by decide) ?_ rfl rfl (by decide)))) | (with_reducible refine args_cons ?_ rfl) | (with_reducible refine args_nil ?_) | ((with_reducible show Keep _ _ ∧ _); refine And.intro F.keep ?_) | ((with_reducible show wpAny _ _ (callWith _ (Value.ref _) [] _ []) _ _ _); refine r_callf G (by k_is) ?_ rfl rfl) | (with_reducible refine Call_ ?_ rfl)))
    refine truth_table_ok (G.keeps F.keep) ((R.less (by decide)).deeper _) (hcs.keep F.keep) S.left (fun s₂ sm₂ kp₂ => ?_)
    refine not_of ?_
    refine wpAny_truthy_bool ?_
    rw [hsound]
    exact ret _ (((Same.of _ _ _).trans sm₁).trans sm₂) (fun b o e => kp₂ b o (F.keep b o e))
end
end Mine
namespace Mine
section
variable {prog : Program} {w : World} {A : Around} {E : Value → Shared → Prop} {s : Shared} {p : Program} {loose : List Str} {mg mb : Str → Option Value}

theorem cell_ok {Q : Value → Shared → Prop} {l : Addr} {vs : List Value} {ns : List Int} {i : Nat} {t : Tok}
    (G : Gd (hd.heap_39 w.params) p loose mg mb s.heap) (R : Room A 1) (hl : s.heap.IsList l vs.toArray) (hi : IntsAre vs ns) (hsz : ns.length ≤ 1000) (hib : i ≤ 1000)
    (ret : ∀ t s', Same s s' → Keep s.heap s'.heap → @LE.le Nat _ s.heap.objs.size s'.heap.objs.size → Q (.int (ns.getD i 0) t) s') :
    wpAny (model prog w) A (call (.ref 159) [.ref l, .int (i : Nat) t]) Q E s := by
  refine enter (g := s.heap) (binds := [("script", .ref l), ("i", .int (i : Nat) t)]) G (Keep.refl _) (Nat.le_refl _) (by k_is) (by k_is) R.room (BindsTo.of_eq rfl) (locs rfl) ?_ rfl rfl rfl (by decide)
  intro L h tk F hk hL
  have N : News s.heap L h [] := News.nil
  have hz := Nat.le_trans F.above (Nat.le_of_lt F.ns.lt)
  (repeat (first | with_reducible refine wpAny_execs_cons ?_ | with_reducible refine wpAny_If ?_ | (with_reducible refine wpAny_isTrue_Compare1 ?_ (by with_unfolding_all rfl)) | ((with_reducible show wpAny _ _ (eval (Expr.Name _ _) _) _ _ _); (first | (refine nameX_L (v := _) F (by (repeat (first | with_reducible assumption | with_reducible exact up_eq _ _ _ | refine (up_ne (by decide)).trans ?_ | exact rfl))) ?_ rfl rfl (by decide)) | (refine nameX_C (c := _) (o := _) (v := _) N rfl (by k_mem) (by assumption) ?_ rfl rfl (by decide)) | (refine r_glob G F (by k_is) ?_ rfl rfl (by decide)) | (refine r_boot G F (by boot_fast) (by k_is) (by decide) ?_ rfl rfl (by decide)))) | (with_reducible refine args_cons ?_ rfl) | (with_reducible refine args_nil ?_) | ((with_reducible show wpAny _ _ (callWith _ (Value.builtin _) [] _ []) _ _ _); refine callWith_builtin1 ?_ rfl rfl) | (with_reducible refine Call_ ?_ rfl)))
  refine r_len (n := ns.length) (stays_list F.keep hl) hi.length (by (first | lia | omega)) (fun tl tk => ?_)
  (repeat (first | with_reducible refine lt_int ?_ | with_reducible refine wpAny_truthy_bool ?_))
  refine split_bool (fun hc => ?_) (fun hc => ?_)
  · have hc' : i < ns.length := by simpa using hc
    (repeat (first | with_reducible refine wpAny_execs_cons ?_ | with_reducible refine wpAny_Return_some ?_ | with_reducible refine Subscript_ ?_ | ((with_reducible show wpAny _ _ (eval (Expr.Name _ _) _) _ _ _); (first | (refine nameX_L (v := _) F (by (repeat (first | with_reducible assumption | with_reducible exact up_eq _ _ _ | refine (up_ne (by decide)).trans ?_ | exact rfl))) ?_ rfl rfl (by decide)) | (refine nameX_C (c := _) (o := _) (v := _) N rfl (by k_mem) (by assumption) ?_ rfl rfl (by decide)) | (refine r_glob G F (by k_is) ?_ rfl rfl (by decide)) | (refine r_boot G F (by boot_fast) (by k_is) (by decide) ?_ rfl rfl (by decide))))))
    refine r_item (stays_list F.keep hl) hi (by (first | lia | omega)) (by (first | lia | omega)) (by (first | lia | omega)) (fun t => ?_) rfl
    rw [Int.toNat_natCast]
    exact ret _ _ (Same.of _ _ _) F.keep hz
  · have hc' : ¬ i < ns.length := by simpa using hc
    (repeat (first | with_reducible refine wpAny_execs_cons ?_ | with_reducible refine wpAny_execs_nil ?_ | with_reducible refine wpAny_Return_some ?_ | with_reducible refine wpAny_Constant_int ?_))
    have e : ns.getD i 0 = 0 := by rw [List.getD_eq_getElem?_getD, List.getElem?_eq_none (by (first | lia | omega))]; rfl
    rw [e] at ret
    exact ret _ _ (Same.of _ _ _) F.keep hz

theorem ints_any {vs : List Value} {ns : List Int} (hi : IntsAre vs ns) {i : Nat} {v : Value} (h : vs.toArray[i]? = some v) : ∃ y t, v = .int y t :=
  let ⟨t, e, _⟩ := ints_at hi h; ⟨_, t, e⟩
theorem nat_abs_le {y : Int} {n : Nat} (h : (if y < 0 then -y else y) ≤ (n : Nat)) : y.natAbs ≤ n := by
  split at h <;> (first | lia | omega)
theorem validC_snoc {n : Nat} {cl : List Int} {x : Int} (h : ValidC n cl) (hx : Valid n x) : ValidC n (cl ++ [x]) := fun y hy => by
  rcases List.mem_append.mp hy with q | q
  · exact h y q
  · rw [List.mem_singleton.mp q]; exact hx

theorem clause_ok {Q : Value → Shared → Prop} {x : Int} {n : Nat} {t u : Tok}
    (G : Gd (hd.heap_39 w.params) p loose mg mb s.heap) (R : Room A 1)
    (ret : ∀ D its cl s', Same s s' → Keep s.heap s'.heap → @LE.le Nat _ s.heap.objs.size D → s'.heap.IsList D (List.toArray its) → IntsAre its cl → ValidC n cl → cl.length ≤ 3 → Q (.ref D) s') :
    wpAny (model prog w) A (call (.ref 164) [.int x t, .int (n : Nat) u]) Q E s := by
  refine enterC (g := s.heap) (binds := [("cell", .int x t), ("n", .int (n : Nat) u)]) G (Keep.refl _) (Nat.le_refl _) (by k_is) (by k_is) R.room (BindsTo.of_eq rfl) rfl (by decide +kernel) ?_ rfl rfl rfl
  intro L h tk cells F N Y hk hL
  obtain ⟨on, rfl, dn⟩ := CellsAre.one (n := "n") (c := L + 1) Y
  replace dn : on.data = .cell (some (.int (n : Nat) u)) := dn
  (repeat (first | with_reducible refine wpAny_execs_cons ?_ | with_reducible refine wpAny_BinOp ?_ | with_reducible refine wpAny_Constant_int ?_ | ((with_reducible show wpAny _ _ (eval (Expr.Name _ _) _) _ _ _); (first | (refine nameX_L (v := _) F (by (repeat (first | with_reducible assumption | with_reducible exact up_eq _ _ _ | refine (up_ne (by decide)).trans ?_ | exact rfl))) ?_ rfl rfl (by decide)) | (refine nameX_C (c := _) (o := _) (v := _) N rfl (by k_mem) (by assumption) ?_ rfl rfl (by decide)) | (refine r_glob G F (by k_is) ?_ rfl rfl (by decide)) | (refine r_boot G F (by boot_fast) (by k_is) (by decide) ?_ rfl rfl (by decide)))) | (with_reducible refine wpAny_Assign_Name ?_ (by with_unfolding_all rfl))))
  refine mod_int' (by decide) ?_
  generalize x.fmod 343 = c
  (repeat (first | with_reducible refine wpAny_execs_cons ?_ | with_reducible refine wpAny_BinOp ?_ | with_reducible refine wpAny_Constant_int ?_ | with_reducible refine List_ ?_ | ((with_reducible show wpAny _ _ (eval (Expr.Name _ _) _) _ _ _); (first | (refine nameX_L (v := _) F (by (repeat (first | with_reducible assumption | with_reducible exact up_eq _ _ _ | refine (up_ne (by decide)).trans ?_ | exact rfl))) ?_ rfl rfl (by decide)) | (refine nameX_C (c := _) (o := _) (v := _) N rfl (by k_mem) (by assumption) ?_ rfl rfl (by decide)) | (refine r_glob G F (by k_is) ?_ rfl rfl (by decide)) | (refine r_boot G F (by boot_fast) (by k_is) (by decide) ?_ rfl rfl (by decide)))) | (with_reducible refine args_cons ?_ rfl) | (with_reducible refine wpAny_Assign_Name ?_ (by with_unfolding_all rfl)) | ((with_reducible show wpAny _ _ (storeName _ _ _) _ _ _); (refine r_store F N ?_ rfl rfl; clear F N; intro h tk F N hg))))
  refine mod_int' (by decide) ?_
  (repeat (first | with_reducible refine wpAny_BinOp ?_ | with_reducible refine wpAny_Constant_int ?_ | with_reducible refine sub_int ?_ | ((with_reducible show wpAny _ _ (eval (Expr.Name _ _) _) _ _ _); (first | (refine nameX_L (v := _) F (by (repeat (first | with_reducible assumption | with_reducible exact up_eq _ _ _ | refine (up_ne (by decide)).trans ?_ | exact rfl))) ?_ rfl rfl (by decide)) | (refine nameX_C (c := _) (o := _) (v := _) N rfl (by k_mem) (by assumption) ?_ rfl rfl (by decide)) | (refine r_glob G F (by k_is) ?_ rfl rfl (by decide)) | (refine r_boot G F (by boot_fast) (by k_is) (by decide) ?_ rfl rfl (by decide)))) | (with_reducible refine args_cons ?_ rfl)))
  refine floordiv_int (by decide) ?_ (Or.inl (PyProof.noPylong_small (by decide)))
  (repeat (first | with_reducible refine wpAny_Constant_int ?_))
  refine mod_int' (by decide) ?_
  (repeat (first | with_reducible refine wpAny_BinOp ?_ | with_reducible refine wpAny_Constant_int ?_ | with_reducible refine sub_int ?_ | ((with_reducible show wpAny _ _ (eval (Expr.Name _ _) _) _ _ _); (first | (refine nameX_L (v := _) F (by (repeat (first | with_reducible assumption | with_reducible exact up_eq _ _ _ | refine (up_ne (by decide)).trans ?_ | exact rfl))) ?_ rfl rfl (by decide)) | (refine nameX_C (c := _) (o := _) (v := _) N rfl (by k_mem) (by assumption) ?_ rfl rfl (by decide)) | (refine r_glob G F (by k_is) ?_ rfl rfl (by decide)) | (refine r_boot G F (by boot_fast) (by k_is) (by decide) ?_ rfl rfl (by decide)))) | (with_reducible refine args_cons ?_ rfl)))
  refine floordiv_int (by decide) ?_ (Or.inl (PyProof.noPylong_small (by decide)))
  (repeat (first | with_reducible refine wpAny_execs_cons ?_ | with_reducible refine wpAny_Return_some ?_ | with_reducible refine wpAny_Constant_int ?_ | with_reducible refine sub_int ?_ | (with_reducible refine args_nil ?_) | ((with_reducible show wpAny _ _ (newList _) _ _ _); (refine newList_K F N ?_ (by size_fits)); clear F N; intro D h F N hDlt) | ((with_reducible show wpAny _ _ (storeName _ _ _) _ _ _); (refine r_store F N ?_ rfl rfl; clear F N; intro h tk F N hg))))
  refine comp_expr (cl := [("n", L + 1)]) rfl (by decide) rfl (by decide) rfl ?_ (fun _ => rfl)
  (repeat (first | ((with_reducible show wpAny _ _ (eval (Expr.Name _ _) _) _ _ _); (first | (refine nameX_L (v := _) F (by (repeat (first | with_reducible assumption | with_reducible exact up_eq _ _ _ | refine (up_ne (by decide)).trans ?_ | exact rfl))) ?_ rfl rfl (by decide)) | (refine nameX_C (c := _) (o := _) (v := _) N rfl (by k_mem) (by assumption) ?_ rfl rfl (by decide)) | (refine r_glob G F (by k_is) ?_ rfl rfl (by decide)) | (refine r_boot G F (by boot_fast) (by k_is) (by decide) ?_ rfl rfl (by decide))))))
  have hl3 := IsL.isList (N.get (.head _))
  have hz : s.heap.objs.size ≤ h.objs.size := Nat.le_trans F.above (Nat.le_of_lt F.ns.lt)
  refine wpAny_mono (src_list (show A.handled = none from R.handled) hl3) (fun it s₂ hit => ?_) fun _ _ e => e
  refine compIn_v hit (show (3 : Nat) ≤ sizeLine by decide) (fun i ys => ∃ cl, IntsAre ys cl ∧ ValidC n cl ∧ cl.length ≤ i) ⟨[], .nil, (by intro c hc; cases hc), Nat.le_refl _⟩ ?_ ?_
  · rintro C i ys v s₃ m₃ E' hi' hv ⟨cl, hys, hval, hle⟩ sm kp hn₃ hm₃
    obtain ⟨y, tv, rfl⟩ := ints_any (IntsAre.cons _ _ (IntsAre.cons _ _ (IntsAre.cons _ _ IntsAre.nil))) hv
    have G₃ := G.keeps (fun b o e => kp b o (F.keep b o e))
    have dc : s₃.heap.IsCell (L + 1) (some (.int (n : Nat) u)) := ⟨on, kp _ _ (N.get (.tail _ (.head _))), dn⟩
    have nx : ∃ cl, IntsAre ys cl ∧ ValidC n cl ∧ cl.length ≤ i + 1 := ⟨cl, hys, hval, Nat.le_succ_of_le hle⟩
    refine tests_one ?_
    refine isTrue_and ?_
    refine wpAny_isTrue_Compare1 ?_ (by with_unfolding_all rfl)
    refine e_local hn₃ hm₃ ?_ rfl rfl (by decide)
    (repeat (first | with_reducible refine wpAny_Constant_int ?_ | with_reducible refine ne_int ?_ | with_reducible refine wpAny_truthy_bool ?_))
    refine split_bool (fun hc => ?_) (fun hc => ?_)
    · have hy0 : y ≠ 0 := by simpa using hc
      refine isTrue_and ?_
      refine wpAny_isTrue_Compare1 ?_ (by with_unfolding_all rfl)
      refine Call_ ?_ rfl
      refine e_boot G₃ (v := .builtin "abs") (by boot_fast) (by k_is) (by decide) ?_ rfl rfl rfl rfl (by decide)
      refine callWith_builtin1 ?_ rfl rfl
      refine args_cons ?_ rfl
      refine e_local hn₃ hm₃ ?_ rfl rfl (by decide)
      refine args_nil ?_
      refine call_abs_int (fun ta tk => ?_)
      refine e_cell (c := L + 1) rfl dc ?_ rfl rfl (by decide)
      (repeat (first | with_reducible refine P.le_int ?_ | with_reducible refine wpAny_truthy_bool ?_))
      refine split_bool (fun hc2 => ?_) (fun hc2 => ?_)
      · have hyn : (if y < 0 then -y else y) ≤ (n : Nat) := by simpa using hc2
        refine isTrue_and_nil ?_
        refine ⟨Same.of _ _ _, Keep.refl _, ?_⟩
        simp only [if_true]
        refine e_local hn₃ hm₃ ?_ rfl rfl (by decide)
        exact ⟨Same.refl _, Keep.refl _, cl ++ [y], IntsAre.append hys (IntsAre.cons _ _ IntsAre.nil), validC_snoc hval ⟨hy0, nat_abs_le hyn⟩, by rw [List.length_append]; exact Nat.succ_le_succ hle⟩
      · exact ⟨Same.of _ _ _, Keep.refl _, by rw [if_neg Bool.false_ne_true]; exact nx⟩
    · exact ⟨Same.of _ _ _, Keep.refl _, by rw [if_neg Bool.false_ne_true]; exact nx⟩
  · rintro C D ys s' hCD hC hD ⟨cl, hys, hval, hle⟩ sm kp ⟨q, e⟩
    exact ret _ _ cl _ ((Same.of _ _ _).trans sm) (fun b o e => kp b o (F.keep b o e)) (Nat.le_trans hz (Nat.le_of_lt hD)) (IsL.isList e) hys hval hle
end
end Mine
namespace Mine
section
variable {prog : Program} {w : World} {A : Around} {E : Value → Shared → Prop} {s : Shared} {p : Program} {loose : List Str} {mg mb : Str → Option Value}

def mTrue (css : List (List Int)) (n k : Nat) : Bool := css.all fun c => c.any fun l => (trueLits k n).any (· == l)
theorem hasModel_any (css : List (List Int)) (n : Nat) : hasModel css n = (List.range (2 ^ n)).any (mTrue css n) := by
  unfold hasModel mTrue
  congr 1
  funext k
  congr 1
  funext c
  congr 1
  funext l
  rw [List.contains_eq_any_beq]
  congr 1
  funext x
  exact BEq.comm
theorem ints_one {x y : Int} {t : Tok} (h : x = y) : IntsAre [.int x t] [y] := by subst h; exact IntsAre.cons _ _ IntsAre.nil
theorem lits_snoc {ys : List Value} {i k z : Nat} {t : Tok} (h : IntsAre ys ((List.range i).map fun (i : Nat) => ((i : Int) + 1) * (1 - 2 * ((k / 2 ^ i % 2 : Nat) : Int)))) (hz : k / 2 ^ i % 2 = z) :
    IntsAre (ys ++ [.int (((1 : Int) + (i : Nat)) * (1 - 2 * (z : Nat))) t]) ((List.range (i + 1)).map fun (i : Nat) => ((i : Int) + 1) * (1 - 2 * ((k / 2 ^ i % 2 : Nat) : Int))) := by
  rw [List.range_succ, List.map_append]
  exact IntsAre.append h (ints_one (by
    show _ = ((i : Int) + 1) * (1 - 2 * ((k / 2 ^ i % 2 : Nat) : Int))
    rw [hz, Int.add_comm 1 (i : Int)]))

abbrev hPos : Pos := ⟨115, 15, 115, 80⟩
abbrev AvI (z I : Nat) : Addr → Prop := fun b => @LE.le Nat _ z b ∧ b ∉ [I]
theorem has_model_ok {Q : Value → Shared → Prop} {a bm : Addr} {ob : Obj} {css : List (List Int)} {n : Nat} {t : Tok}
    (G : Gd (hd.heap_39 w.params) p loose mg mb s.heap) (R : Room A 3) (B : BMod s.heap mainGlobals mg bm ob) (hd₀ : CodeHd s.heap 168 166) (ht₀ : s.heap.get? 166 = some (tabObj #[])) (hcs : IsLL s.heap a css) (hn3 : n ≤ 3)
    (ret : ∀ s', RelT s.heap.objs.size 166 s s' → (∃ ps, s'.heap.get? 166 = some (tabObj ps)) → Q (.bool (hasModel css n)) s') :
    wpAny (model prog w) A (call (.ref 169) [.ref a, .int (n : Nat) t]) Q E s := by
  have kt₀ : KeepT s.heap (hideAll s.heap [166]) := fun b o e hn => hideAll_get _ e (fun q => by rw [List.mem_singleton.mp q, ht₀] at e; cases e; exact hn _ rfl)
  have G₀ := G.keepT kt₀ rfl
  have B₀ := kt₀.bmod B
  have l₀ : @LT.lt Nat _ 166 s.heap.objs.size := Heap.lt_size ht₀
  have l₁ : @LT.lt Nat _ 168 s.heap.objs.size := hdLt hd₀
  obtain ⟨cvs, hca, hcp⟩ := kt₀.ll hcs
  refine enterC (g := hideAll s.heap [166]) (binds := [("clauses", .ref a), ("n", .int (n : Nat) t)]) G₀ (keep_hide _) (Nat.le_of_eq (hideAll_size _ _)) (by k_is) (by k_is) R.room (BindsTo.of_eq rfl) rfl (by decide +kernel) ?_ rfl rfl rfl
  intro L h tk cells F N Y hk hL
  obtain ⟨o₁, o₂, rfl, d₁, d₂⟩ := CellsAre.two (n := "true_lits") (n' := "k") (c := L + 1 + 1) (c' := L + 1) Y
  replace d₁ : o₁.data = .cell none := d₁
  replace d₂ : o₂.data = .cell none := d₂
  have cT : L + 1 + 1 ≠ L := (N (L + 1 + 1, o₁) (.head _)).2.1
  have gT : (hideAll s.heap [166]).get? (L + 1 + 1) = none := (N (L + 1 + 1, o₁) (.head _)).2.2
  have cK : L + 1 ≠ L := (N (L + 1, o₂) (.tail _ (.head _))).2.1
  have gK : (hideAll s.heap [166]).get? (L + 1) = none := (N (L + 1, o₂) (.tail _ (.head _))).2.2
  have hzL : @LE.le Nat _ s.heap.objs.size L := hL
  have h8 : (2 : Nat) ^ n ≤ 8 := Nat.pow_le_pow_right (by decide) hn3
  have hpw : (2 : Int) ^ ((n : Nat) : Int).toNat = ((2 ^ n : Nat) : Int) := by simp
  have hb1 : ((2 ^ n : Nat) : Int) ≤ 8 := Int.ofNat_le.mpr h8
  have hb0 : 0 ≤ ((2 ^ n : Nat) : Int) := Int.natCast_nonneg _
  have G := G₀
  refine wpAny_execs_cons ?_
  refine wpAny_For ?_ (fun _ => rfl)
  (repeat (first | with_reducible refine wpAny_BinOp ?_ | with_reducible refine wpAny_Constant_int ?_ | ((with_reducible show wpAny _ _ (eval (Expr.Name _ _) _) _ _ _); (first | (refine nameX_L (v := _) F (by (repeat (first | with_reducible assumption | with_reducible exact up_eq _ _ _ | refine (up_ne (by decide)).trans ?_ | exact rfl))) ?_ rfl rfl (by decide)) | (refine nameX_C (c := _) (o := _) (v := _) N rfl (by k_mem) (by assumption) ?_ rfl rfl (by decide)) | (refine r_glob G F (by k_is) ?_ rfl rfl (by decide)) | (refine r_boot G F (by boot_fast) (by k_is) (by decide) ?_ rfl rfl (by decide)))) | (with_reducible refine args_cons ?_ rfl) | ((with_reducible show wpAny _ _ (callWith _ (Value.type _) [] _ []) _ _ _); refine Pv.callWith_type1 ?_ rfl rfl) | (with_reducible refine Call_ ?_ rfl)))
  refine pow_int_small (by (first | lia | omega)) (by (first | lia | omega)) (by decide) ?_
  rw [hpw]
  (repeat (first | (with_reducible refine args_nil ?_)))
  refine r_range1 F N ?_
  clear F N
  intro r h₁ tk t0 u0 v0 F N hr hkr
  have r₁ : RelT s.heap.objs.size 166 s { s with heap := h₁, toks := tk } := RelT.of (Same.of _ _ _) (hk.trans hkr)
  obtain ⟨I, hI⟩ : ∃ I, I = h₁.objs.size := ⟨_, rfl⟩
  have HI₁ : HInv (AvI s.heap.objs.size I) hPos 168 166 h₁ := (HInv.first (Av := AvI s.heap.objs.size I) hd₀ ht₀).keep (hk.trans hkr)
  have lI : @LE.le Nat _ s.heap.objs.size I := by rw [hI]; exact Nat.le_trans hzL (Nat.le_of_lt F.ns.lt)
  have lT : @LT.lt Nat _ (L + 1 + 1) I := by rw [hI]; exact Heap.lt_size (N.get (.head _))
  have lK : @LT.lt Nat _ (L + 1) I := by rw [hI]; exact Heap.lt_size (N.get (.tail _ (.head _)))
  have lL : @LT.lt Nat _ L I := by rw [hI]; exact F.ns.lt
  generalize hm₀ : bindL _ _ _ = m₀ at F
  have hmc : m₀ "clauses" = some (.ref a) := by rw [← hm₀]; rfl
  have hmn : m₀ "n" = some (.int (n : Nat) t) := by rw [← hm₀]; rfl
  clear hm₀
  generalize hgg : hideAll s.heap [166] = g at *
  refine for_rangeC (c := L + 1) (n := 2 ^ n) (fun i s' => RelT s.heap.objs.size 166 s s' ∧ HInv (AvI s.heap.objs.size I) hPos 168 166 s'.heap ∧ Fr g L s'.heap m₀ ∧ (∃ o v, s'.heap.get? (L + 1 + 1) = some o ∧ o.data = .cell v) ∧ (∃ o v, s'.heap.get? (L + 1) = some o ∧ o.data = .cell v) ∧ (List.range i).any (mTrue css n) = false)
    R.handled hr (sm0 (Nat.le_trans h8 (by decide))) (sz0 _) (by rw [← hI]; exact lK) rfl rfl rfl ?_ ?_ ?_ ?_ ?_
  · intro h' tk' kp
    exact ⟨RelT.of (Same.of _ _ _) ((hk.trans hkr).trans kp), HI₁.keep kp, F.keeps kp, ⟨o₁, none, kp _ _ (N.get (.head _)), d₁⟩, ⟨o₂, none, kp _ _ (N.get (.tail _ (.head _))), d₂⟩, rfl⟩
  · rintro i s' ⟨_, _, _, _, ⟨o, v, e, d⟩, _⟩
    exact ⟨v, o, e, d⟩
  · rintro i s₁ h' tk' ⟨r, H, F, ⟨oT, vT, eT, dT⟩, ⟨oK, vK, eK, dK⟩, ha⟩ kp
    rw [← hI] at kp
    refine ⟨r.turn lI kp, H.step (bad := [I]) ?_ ?_ (fun b hb => hb.2) (fun b o hb e => kp b o (fun q => hb (by simp [q])) e), ?_, ⟨oT, vT, kp _ _ (Nat.ne_of_lt lT) eT, dT⟩, ⟨oK, vK, kp _ _ (Nat.ne_of_lt lK) eK, dK⟩, ha⟩
    · rw [List.mem_singleton]; exact Nat.ne_of_lt (Nat.lt_of_lt_of_le l₁ lI)
    · rw [List.mem_singleton]; exact Nat.ne_of_lt (Nat.lt_of_lt_of_le l₀ lI)
    · obtain ⟨oL, es, ep, e, d⟩ := F.ns
      refine ⟨⟨oL, es, ep, kp _ _ (Nat.ne_of_lt lL) e, d⟩, fun b o e => kp b o (fun q => ?_) (F.keep b o e), F.above⟩
      have := Heap.lt_size e
      rw [← hgg, hideAll_size, q] at this
      exact Nat.lt_irrefl _ (Nat.lt_of_lt_of_le this lI)
  · rintro i tv s₀ h₂ oI E' hi ⟨r, H, F, ⟨oT, vT, eT, dT⟩, ⟨oK, vK, eK, dK⟩, ha⟩ hs ⟨oK', eK', dK'⟩ eI hnI
    rw [← hI] at eI ⊢
    have e0 : (0 : Int) + (i : Nat) = (i : Nat) := by (first | lia | omega)
    rw [e0] at dK'
    have mv₁ : ∀ b o, b ≠ L + 1 → s₀.heap.get? b = some o → h₂.get? b = some o := fun b o hb e => hs.extBut b o hb e
    have H₁ := (turn_cell eK dK mv₁).hinv H
    have r₂ := r.turn (tk := s₀.toks) (Nat.le_succ_of_le hzL) mv₁
    have eT₁ := mv₁ _ _ (Nat.succ_ne_self _) eT
    replace F := F.change hs cK gK
    have N : News g L h₂ [] := News.nil
    clear hs mv₁ r H eT eK dK
    refine wpAny_execs_cons ?_
    refine wpAny_Assign_Name ?_ (by with_unfolding_all rfl)
    refine comp_expr (cl := [("k", L + 1)]) rfl (by decide) rfl (by decide) rfl ?_ (fun _ => rfl)
    (repeat (first | with_reducible refine wpAny_BinOp ?_ | with_reducible refine wpAny_Constant_int ?_ | with_reducible refine add_int ?_ | ((with_reducible show wpAny _ _ (eval (Expr.Name _ _) _) _ _ _); (first | (refine nameX_L (v := _) F (by (repeat (first | with_reducible assumption | with_reducible exact up_eq _ _ _ | refine (up_ne (by decide)).trans ?_ | exact rfl))) ?_ rfl rfl (by decide)) | (refine nameX_C (c := _) (o := _) (v := _) N rfl (by k_mem) (by assumption) ?_ rfl rfl (by decide)) | (refine r_glob G F (by k_is) ?_ rfl rfl (by decide)) | (refine r_boot G F (by boot_fast) (by k_is) (by decide) ?_ rfl rfl (by decide)))) | (with_reducible refine args_cons ?_ rfl) | (with_reducible refine args_nil ?_) | ((with_reducible show wpAny _ _ (callWith _ (Value.type _) [] _ []) _ _ _); refine Pv.callWith_type1 ?_ rfl rfl) | (with_reducible refine Call_ ?_ rfl)))
    refine r_range2 F N ?_
    intro r₃ h₃ tk₃ t0 u0 v0 F₃ N₃ hr₃ hkr₃
    refine wpAny_mono (src_range (n := n) (show A.handled = none from R.handled) hr₃ (sm1 (Nat.le_trans hn3 (by decide))) (sz1 n)) (fun it s₄ hit => ?_) fun _ _ e => e
    refine compIn_v hit (Nat.le_trans hn3 (by decide)) (fun j ys => IntsAre ys ((List.range j).map fun (j : Nat) => ((j : Int) + 1) * (1 - 2 * ((i / 2 ^ j % 2 : Nat) : Int)))) IntsAre.nil ?_ ?_
    · rintro C j ys v s₅ m₅ E₅ hj ⟨tj, rfl⟩ hys sm kp hn₅ hm₅
      have dk : s₅.heap.IsCell (L + 1) (some (.int (i : Nat) tv)) := ⟨oK', kp _ _ (hkr₃ _ _ eK'), dK'⟩
      refine tests_nil ?_
      refine ⟨Same.refl _, Keep.refl _, ?_⟩
      simp only [if_true]
      refine wpAny_BinOp ?_
      refine e_local hn₅ hm₅ ?_ rfl rfl (by decide)
      refine wpAny_BinOp ?_
      refine wpAny_Constant_int ?_
      refine wpAny_BinOp ?_
      refine wpAny_Constant_int ?_
      refine wpAny_BinOp ?_
      refine wpAny_BinOp ?_
      refine e_cell (c := L + 1) rfl dk ?_ rfl rfl (by decide)
      refine wpAny_BinOp ?_
      refine e_local hn₅ hm₅ ?_ rfl rfl (by decide)
      refine wpAny_Constant_int ?_
      refine sub_int ?_
      have e1 : (1 : Int) + (j : Nat) - 1 = ((j : Nat) : Int) := by (first | lia | omega)
      rw [e1]
      refine r_shr (fun ts => ?_)
      refine wpAny_Constant_int ?_
      refine mod_int' (by decide) ?_
      have hdm : (((i / 2 ^ j : Nat) : Int)).fmod 2 = ((i / 2 ^ j % 2 : Nat) : Int) := by
        rw [Int.fmod_eq_emod_of_nonneg _ (by decide)]; rfl
      rw [hdm]
      have hb2 : i / 2 ^ j % 2 < 2 := Nat.mod_lt _ (by decide)
      obtain ⟨z, hz⟩ : ∃ z, i / 2 ^ j % 2 = z := ⟨_, rfl⟩
      rw [hz] at hb2 ⊢
      refine mul_int ?_ (by mul_fits)
      refine sub_int ?_
      refine mul_int ?_ (by mul_fits)
      exact ⟨Same.of _ _ _, Keep.refl _, lits_snoc hys hz⟩
    · intro C D ys s₅ hCD hC hD hys sm kp hpl
      obtain ⟨qD, eD⟩ := hpl
      replace kp : Keep h₂ s₅.heap := hkr₃.trans kp
      have nDT : D ≠ L + 1 + 1 := Nat.ne_of_gt (Nat.lt_trans (Heap.lt_size (hkr₃ _ _ eT₁)) hD)
      clear F₃ N₃ hr₃ hkr₃ hit
      refine r_storeC (F.keeps kp) rfl (kp _ _ eT₁) cT gT dT (fun h₆ o₆ F₆ ho₆ do₆ mv₆ => ?_) rfl rfl
      have H₆ := (turn_cell (kp _ _ eT₁) dT mv₆).hinv (H₁.keep kp)
      have r₆ := (r₂.trans (RelT.of (s' := s₅) ((Same.of _ _ _).trans sm) kp)).turn (tk := s₅.toks) (Nat.le_succ_of_le (Nat.le_succ_of_le hzL)) mv₆
      have eI₆ := mv₆ _ _ (Nat.ne_of_gt lT) (kp _ _ eI)
      have eK₆ := mv₆ _ _ (Nat.ne_of_lt (Nat.lt_succ_self _)) (kp _ _ eK')
      have eD₆ := mv₆ _ _ nDT eD
      have hzs : ∀ x, @LE.le Nat _ h₆.objs.size x → AvI s.heap.objs.size I x := fun x hx => ⟨Nat.le_trans lI (Nat.le_trans (Nat.le_of_lt (Heap.lt_size eI₆)) hx), fun q => by
        rw [List.mem_singleton.mp q] at hx; exact Nat.lt_irrefl _ (Nat.lt_of_lt_of_le (Heap.lt_size eI₆) hx)⟩
      clear F H₁ r₂ eT₁ mv₆ kp
      refine wpAny_execs_cons ?_
      refine wpAny_If ?_
      refine isTrue_plain ?_ (by with_unfolding_all rfl)
      refine nest_ok (xl := "lit") (xc := "clause") (tn := "true_lits") (xs := "clauses") (c₀ := 168) (P₀ := 166) (ct := L + 1 + 1) (dt := D) (a := a) rfl rfl (fun Q hQ => ?_) (fun Q hQ => ?_) rfl rfl (by decide) rfl rfl rfl rfl (by decide) rfl (fun _ _ => rfl) (by decide) rfl rfl rfl rfl (by decide) (by decide) (by decide) (by with_unfolding_all rfl) rfl
        (G.keeps F₆.keep) (by k_is) (B₀.keeps F₆.keep) hzs H₆ (stays_list F₆.keep hca) (hcp.mono fun _ _ x => x.keep F₆.keep) ⟨o₆, ho₆, do₆⟩ (IsL.isList eD₆) hys R.handled ?_ (fun s₇ kt kz mg' hdr hos H' => ?_)
      · exact r_boot (G.keeps (Keep.refl _)) F₆ (by boot_fast) (by k_is) (by decide) hQ rfl rfl (by decide)
      · exact nameX_L (v := .ref a) F₆ hmc hQ rfl rfl (by decide)
      · have := R.depth
        show A.depth + 1 + 1 < recursionLimit
        (first | lia | omega)
      · have rs : RelT s.heap.objs.size 166 { s₅ with heap := h₆, toks := s₅.toks } s₇ := ⟨kt, fun b o hb hP e => kz b o (fun q => Nat.lt_irrefl _ (Nat.lt_of_lt_of_le hb q.1)) hP e, mg', hdr, hos⟩
        have r₇ := r₆.trans rs
        have F : Fr g L s₇.heap m₀ := by
          rw [← hgg] at F₆ ⊢
          exact fr_rel (s₁ := { s₅ with heap := h₆, toks := s₅.toks }) F₆ rs
        have N : News g L s₇.heap [] := News.nil
        refine wpAny_truthy_bool ?_
        refine split_bool (fun hc => ?_) (fun hc => ?_)
        · (repeat (first | with_reducible refine wpAny_execs_cons ?_ | with_reducible refine wpAny_Return_some ?_ | with_reducible refine Constant_bool ?_))
          have e : hasModel css n = true := by
            rw [hasModel_any]
            exact List.any_eq_true.mpr ⟨i, List.mem_range.mpr hi, hc⟩
          rw [e] at ret
          obtain ⟨_, ps, eP, _⟩ := H'
          exact ret _ r₇ ⟨ps, eP⟩
        · (repeat (first | with_reducible refine wpAny_execs_nil ?_))
          refine ⟨kz _ _ (fun q => q.2 (by simp)) (Nat.ne_of_gt (Nat.lt_of_lt_of_le l₀ lI)) eI₆, r₇, H', F, ⟨o₆, _, kt _ _ ho₆ (tab_data fun ps q => by rw [do₆] at q; cases q), do₆⟩, ⟨oK', _, kt _ _ eK₆ (tab_data fun ps q => by rw [dK'] at q; cases q), dK'⟩, ?_⟩
          rw [List.range_succ, List.any_append, ha]
          have hc' : mTrue css n i = false := hc
          simp [hc']
  · rintro s' ⟨r, ⟨_, ps, eP, _⟩, F, _, _, ha⟩
    show wpAny _ _ _ _ _ _
    have N : News g L s'.heap [] := News.nil
    (repeat (first | with_reducible refine wpAny_execs_cons ?_ | with_reducible refine wpAny_Return_some ?_ | with_reducible refine Constant_bool ?_))
    rw [← hasModel_any] at ha
    rw [ha] at ret
    exact ret _ r ⟨ps, eP⟩
end
end Mine
namespace Mine
section
variable {prog : Program} {w : World} {A : Around} {E : Value → Shared → Prop} {s s₂ : Shared} {p : Program} {loose : List Str} {mg mb : Str → Option Value}

theorem validCs_snoc {n : Nat} {css : List (List Int)} {c : List Int} (h : ValidCs n css) (hc : ValidC n c) : ValidCs n (css ++ [c]) := fun d hd => by
  rcases List.mem_append.mp hd with q | q
  · exact h d q
  · rw [List.mem_singleton.mp q]; exact hc
theorem each_snoc {k : Nat} {css : List (List Int)} {c : List Int} (h : ∀ d ∈ css, d.length ≤ k) (hc : c.length ≤ k) : ∀ d ∈ css ++ [c], d.length ≤ k := fun d hd => by
  rcases List.mem_append.mp hd with q | q
  · exact h d q
  · rw [List.mem_singleton.mp q]; exact hc

/-- «[_law_clause(_law_cell(script, i), n) for i in ..]» -/
theorem drawn_in {env : Env} {scope : Scope} {cl : List (Str × Addr)} {p₁ p₂ p₃ p₄ p₅ p₆ p₇ : Pos} {l cS cN : Addr} {vs : List Value} {ns : List Int} {n a₀ k : Nat} {u : Tok} {it : Value} {Fin : Addr → Addr → List Value → Shared → Shared → Prop}
    (G : Gd (hd.heap_39 w.params) p loose mg mb s.heap) (R : Room A 1) (hl : s.heap.IsList l vs.toArray) (hi : IntsAre vs ns) (hsz : ns.length ≤ 1000)
    (hS : s.heap.IsCell cS (some (.ref l))) (hN : s.heap.IsCell cN (some (.int (n : Nat) u))) (ha : a₀ ≤ 10) (hk : k ≤ 10)
    (hg : env.globals = mainGlobals) (hkd : ∀ C, (compEnvC scope cl C env).scope.kind = .function)
    (h1 : ∀ C, (compEnvC scope cl C env).kindOf "_law_clause" = some .globalImplicit) (h2 : ∀ C, (compEnvC scope cl C env).kindOf "_law_cell" = some .globalImplicit)
    (h3 : ∀ C, (compEnvC scope cl C env).kindOf "script" = some .cell) (h4 : ∀ C, (compEnvC scope cl C env).kindOf "n" = some .cell) (h5 : ∀ C, (compEnvC scope cl C env).kindOf "i" = some .local)
    (c1 : ∀ C, (compEnvC scope cl C env).cells.lookup ("script" : Str) = some cS) (c2 : ∀ C, (compEnvC scope cl C env).cells.lookup ("n" : Str) = some cN)
    (H : IterAt prog w A k (fun i v => ∃ t, v = .int ((a₀ : Nat) + (i : Nat)) t) s it s₂)
    (done : ∀ C D ys css s', C ≠ D → s.heap.objs.size < C → s.heap.objs.size < D → ValidCs n css → css.length ≤ k → (∀ c ∈ css, c.length ≤ 3) → Paired (IsI s'.heap) ys css → (∀ y ∈ ys, y ≠ .ref C) → Same s s' → Keep s.heap s'.heap → s'.heap.PlainList D ys.toArray → Fin C D ys s₂ s') :
    CompIn prog w A env scope cl "i" [] (.Call (.Name "_law_clause" p₁) [.Call (.Name "_law_cell" p₂) [.Name "script" p₃, .Name "i" p₄] [] p₅, .Name "n" p₆] [] p₇) Fin it s₂ := by
  refine compIn_o H (Nat.le_trans hk (by decide)) (fun i css => ValidCs n css ∧ css.length ≤ i ∧ ∀ c ∈ css, c.length ≤ 3) ⟨(by intro c hc; cases hc), Nat.le_refl _, (by intro c hc; cases hc)⟩ ?_ ?_
  · rintro C i v s₃ m₃ E' hi' ⟨t, rfl⟩ sm kp hn₃ hm₃
    have G₃ := G.keeps kp
    have e1 : ((a₀ : Nat) : Int) + (i : Nat) = ((a₀ + i : Nat) : Int) := by (first | lia | omega)
    rw [e1] at hm₃
    have hS₃ : s₃.heap.IsCell cS (some (.ref l)) := let ⟨o, e, d⟩ := hS; ⟨o, kp _ _ e, d⟩
    refine tests_nil ⟨Same.refl _, Keep.refl _, rfl, ?_⟩
    refine Call_ ?_ rfl
    refine e_glob G₃ (by k_is) ?_ hg (hkd C) (h1 C) (by decide)
    refine r_callf G₃ (by k_is) ?_ rfl rfl
    refine args_cons ?_ rfl
    refine Call_ ?_ rfl
    refine e_glob G₃ (by k_is) ?_ hg (hkd C) (h2 C) (by decide)
    refine r_callf G₃ (by k_is) ?_ rfl rfl
    refine args_cons ?_ rfl
    refine e_cell (c1 C) hS₃ ?_ (hkd C) (h3 C) (by decide)
    refine args_cons ?_ rfl
    refine e_local hn₃ hm₃ ?_ (hkd C) (h5 C) (by decide)
    refine args_nil ?_
    refine ⟨fun _ _ e => e, ?_⟩
    refine cell_ok G₃ R (stays_list kp hl) hi hsz (by (first | lia | omega)) (fun tc s₄ sm₄ kp₄ lz₄ => ?_)
    have hN₄ : s₄.heap.IsCell cN (some (.int (n : Nat) u)) := let ⟨o, e, d⟩ := hN; ⟨o, kp₄ _ _ (kp _ _ e), d⟩
    refine args_cons ?_ rfl
    refine e_cell (c2 C) hN₄ ?_ (hkd C) (h4 C) (by decide)
    refine args_nil ?_
    refine ⟨kp₄, ?_⟩
    refine clause_ok (G₃.keeps kp₄) R (fun T its c s₅ sm₅ kp₅ lT hT hti hval hle => ?_)
    exact ⟨((Same.of _ _ _).trans sm₄).trans sm₅, kp₄.trans kp₅, T, its, c, rfl, Nat.le_trans lz₄ lT, hT, hti, fun css ⟨j1, j2, j3⟩ => ⟨validCs_snoc j1 hval, by rw [List.length_append]; exact Nat.succ_le_succ j2, each_snoc j3 hle⟩⟩
  · intro C D ys css s' hCD hC hD ⟨j1, j2, j3⟩ hp hy sm kp hpl
    exact done C D ys css s' hCD hC hD j1 j2 j3 hp hy sm kp hpl
end
end Mine
namespace Mine
section
variable {prog : Program} {w : World} {A : Around} {E : Value → Shared → Prop} {s : Shared} {p : Program} {loose : List Str} {mg mb : Str → Option Value}

theorem fmod_nat (x : Int) {k : Int} (h : 0 < k) : ∃ z : Nat, x.fmod k = (z : Nat) ∧ ((z : Nat) : Int) < k :=
  ⟨(x.fmod k).toNat, (Int.toNat_of_nonneg (fm0 x h)).symm, by rw [Int.toNat_of_nonneg (fm0 x h)]; exact fm1 x h⟩
theorem ll_one {h : Heap} {D : Addr} {c : List Int} {v : Value} {q : Nat} (e : h.get? D = some (listOf [v].toArray q)) (hv : IsI h v c) : IsLL h D [c] := ⟨[v], IsL.isList e, .cons hv .nil⟩
theorem validCs_app {n : Nat} {css ds : List (List Int)} (h : ValidCs n css) (h' : ValidCs n ds) : ValidCs n (css ++ ds) := fun c hc => (List.mem_append.mp hc).elim (h c) (h' c)
theorem each_app {k : Nat} {css ds : List (List Int)} (h : ∀ c ∈ css, c.length ≤ k) (h' : ∀ c ∈ ds, c.length ≤ k) : ∀ c ∈ css ++ ds, c.length ≤ k := fun c hc => (List.mem_append.mp hc).elim (h c) (h' c)

/-- what the law has drawn -/
structure Drawn (kd n : Nat) (css pr : List (List Int)) : Prop where
  vc : ValidCs n css
  vp : ValidCs n pr
  lc : css.length ≤ 7
  lp : pr.length ≤ 3
  ec : ∀ c ∈ css, c.length ≤ 3
  ep : ∀ c ∈ pr, c.length ≤ 3

theorem law_ok {R : Result → Shared → Prop} {l bm : Addr} {ob : Obj} {vs : List Value} {ns : List Int}
    (G : Gd (hd.heap_39 w.params) p loose mg mb s.heap) (Rm : Room A 12) (B : BMod s.heap mainGlobals mg bm ob) (hd₀ : CodeHd s.heap 168 166) (ht₀ : s.heap.get? 166 = some (tabObj #[]))
    (hl : s.heap.IsList l vs.toArray) (hi : IntsAre vs ns) (hsz : ns.length ≤ 63)
    (ret : ∀ s', RelT s.heap.objs.size 166 s s' → (∃ ps, s'.heap.get? 166 = some (tabObj ps)) → R (.ok (.ret (.bool true))) s') :
    codeAny (model prog w) A (.call (.ref 174) ⟨[.ref l], []⟩) R s := by
  have kt₀ : KeepT s.heap (hideAll s.heap [166]) := fun b o e hn => hideAll_get _ e (fun q => by rw [List.mem_singleton.mp q, ht₀] at e; cases e; exact hn _ rfl)
  have G₀ := G.keepT kt₀ rfl
  have l₀ : @LT.lt Nat _ 166 s.heap.objs.size := Heap.lt_size ht₀
  have hl₀ := kt₀.list hl
  have B₀ := kt₀.bmod B
  have hs1 : ns.length ≤ 1000 := Nat.le_trans hsz (by decide)
  refine enterCodeC (g := hideAll s.heap [166]) (binds := [("script", .ref l)]) G₀ (keep_hide _) (Nat.le_of_eq (hideAll_size _ _)) (by k_is) (by k_is) Rm.room (BindsTo.of_eq rfl) rfl (by decide +kernel) ?_ rfl rfl rfl
  intro L h tk cells F N Y hk hL
  obtain ⟨on, os, rfl, dn, ds⟩ := CellsAre.two (n := "n") (n' := "script") (c := L + 1 + 1) (c' := L + 1) Y
  replace dn : on.data = .cell none := dn
  replace ds : os.data = .cell (some (.ref l)) := ds
  have cnL : L + 1 + 1 ≠ L := (N (L + 1 + 1, on) (.head _)).2.1
  have cng : (hideAll s.heap [166]).get? (L + 1 + 1) = none := (N (L + 1 + 1, on) (.head _)).2.2
  have csL : L + 1 ≠ L := (N (L + 1, os) (.tail _ (.head _))).2.1
  have csg : (hideAll s.heap [166]).get? (L + 1) = none := (N (L + 1, os) (.tail _ (.head _))).2.2
  have hzL : @LE.le Nat _ s.heap.objs.size L := hL
  have kS : Keep s.heap h := hk
  have sS : Same s { s with heap := h, toks := tk } := Same.of s _ _
  have G := G₀
  generalize hgg : hideAll s.heap [166] = g at *
  clear G₀ hk Y
  refine wpAny_execs_cons ?_
  refine wpAny_Assign_Name ?_ (by with_unfolding_all rfl)
  (repeat (first | with_reducible refine wpAny_BinOp ?_ | with_reducible refine wpAny_Constant_int ?_ | ((with_reducible show wpAny _ _ (eval (Expr.Name _ _) _) _ _ _); (first | (refine nameX_L (v := _) F (by (repeat (first | with_reducible assumption | with_reducible exact up_eq _ _ _ | refine (up_ne (by decide)).trans ?_ | exact rfl))) ?_ rfl rfl (by decide)) | (refine nameX_C (c := _) (o := _) (v := _) N rfl (by k_mem) (by assumption) ?_ rfl rfl (by decide)) | (refine r_glob G F (by k_is) ?_ rfl rfl (by decide)) | (refine r_boot G F (by boot_fast) (by k_is) (by decide) ?_ rfl rfl (by decide)))) | (with_reducible refine args_cons ?_ rfl) | (with_reducible refine args_nil ?_) | ((with_reducible show Keep _ _ ∧ _); refine And.intro F.keep ?_) | ((with_reducible show wpAny _ _ (callWith _ (Value.ref _) [] _ []) _ _ _); refine r_callf G (by k_is) ?_ rfl rfl) | (with_reducible refine Call_ ?_ rfl)))
  refine cell_ok (i := 0) (G.keeps F.keep) ((Rm.less (by decide)).deeper _) (stays_list F.keep hl₀) hi hs1 (by decide) (fun tc s₁ sm₁ kp₁ _ => ?_)
  replace F := F.keeps kp₁
  replace N := N.grown kp₁
  replace kS := kS.trans kp₁
  replace sS := (sS.set _ _).trans sm₁
  (repeat (first | with_reducible refine wpAny_Constant_int ?_))
  refine mod_int' (by decide) ?_
  obtain ⟨kd, hkd, hkl⟩ := fmod_nat (ns.getD 0 0) (k := 4) (by decide)
  rw [hkd]
  (refine r_storeK F N kS hzL (fun h tk F' N' kS' T => ?_) rfl rfl; replace F := F'; replace N := N'; replace kS := kS'; replace sS := sS.set h tk; clear F' N' kS')
  obtain ⟨m, tkd, F', hmk⟩ : ∃ m tkd, Fr g L h m ∧ m "kind" = some (.int (kd : Nat) tkd) := ⟨_, _, F, up_eq _ _ _⟩
  replace F := F'
  clear F' T
  refine wpAny_execs_cons ?_
  refine wpAny_Assign_Name ?_ (by with_unfolding_all rfl)
  (repeat (first | with_reducible refine wpAny_BinOp ?_ | with_reducible refine wpAny_Constant_int ?_ | ((with_reducible show wpAny _ _ (eval (Expr.Name _ _) _) _ _ _); (first | (refine nameX_L (v := _) F (by (repeat (first | with_reducible assumption | with_reducible exact up_eq _ _ _ | refine (up_ne (by decide)).trans ?_ | exact rfl))) ?_ rfl rfl (by decide)) | (refine nameX_C (c := _) (o := _) (v := _) N rfl (by k_mem) (by assumption) ?_ rfl rfl (by decide)) | (refine r_glob G F (by k_is) ?_ rfl rfl (by decide)) | (refine r_boot G F (by boot_fast) (by k_is) (by decide) ?_ rfl rfl (by decide)))) | (with_reducible refine args_cons ?_ rfl) | (with_reducible refine args_nil ?_) | ((with_reducible show Keep _ _ ∧ _); refine And.intro F.keep ?_) | ((with_reducible show wpAny _ _ (callWith _ (Value.ref _) [] _ []) _ _ _); refine r_callf G (by k_is) ?_ rfl rfl) | (with_reducible refine Call_ ?_ rfl)))
  refine cell_ok (i := 1) (G.keeps F.keep) ((Rm.less (by decide)).deeper _) (stays_list F.keep hl₀) hi hs1 (by decide) (fun tc s₂ sm₂ kp₂ _ => ?_)
  replace F := F.keeps kp₂
  replace N := N.grown kp₂
  replace kS := kS.trans kp₂
  replace sS := (sS.set _ _).trans sm₂
  (repeat (first | with_reducible refine wpAny_Constant_int ?_))
  refine mod_int' (by decide) ?_
  obtain ⟨n₀, hn₀, hnl₀⟩ := fmod_nat (ns.getD 1 0) (k := 4) (by decide)
  rw [hn₀]
  refine r_storeC F rfl (N.get (.head _)) cnL cng dn (fun h₃ o₃ F' ho₃ do₃ mv₃ => ?_) rfl rfl
  replace N : News g L h₃ [(L + 1 + 1, o₃), (L + 1, os)] := news_cons (news_cons News.nil (mv₃ _ _ (Nat.ne_of_lt (Nat.lt_succ_self _)) (N.get (.tail _ (.head _)))) csL csg) ho₃ cnL cng
  replace kS : Keep s.heap h₃ := fun b o e => mv₃ b o (Nat.ne_of_lt (Nat.lt_of_lt_of_le (Heap.lt_size e) (Nat.le_succ_of_le (Nat.le_succ_of_le hzL)))) (kS b o e)
  replace F := F'
  clear F' ho₃ mv₃ dn
  refine wpAny_execs_cons ?_
  refine wpAny_mono (Q := fun f s' => f = .next ∧ Same s s' ∧ Keep s.heap s'.heap ∧ ∃ (n : Nat) (tn : Tok) (on : Obj), n ≤ 3 ∧ (2 ≤ kd → 2 ≤ n) ∧ on.data = .cell (some (.int (n : Nat) tn)) ∧ Fr g L s'.heap m ∧ News g L s'.heap [(L + 1 + 1, on), (L + 1, os)]) ?_ ?_ fun _ _ e => e
  · refine wpAny_If ?_
    (repeat (first | (with_reducible refine wpAny_isTrue_Compare1 ?_ (by with_unfolding_all rfl)) | with_reducible refine wpAny_Constant_int ?_ | with_reducible refine P.ge_int ?_ | with_reducible refine wpAny_truthy_bool ?_ | ((with_reducible show wpAny _ _ (eval (Expr.Name _ _) _) _ _ _); (first | (refine nameX_L (v := _) F (by (repeat (first | with_reducible assumption | with_reducible exact up_eq _ _ _ | refine (up_ne (by decide)).trans ?_ | exact rfl))) ?_ rfl rfl (by decide)) | (refine nameX_C (c := _) (o := _) (v := _) N rfl (by k_mem) (by assumption) ?_ rfl rfl (by decide)) | (refine r_glob G F (by k_is) ?_ rfl rfl (by decide)) | (refine r_boot G F (by boot_fast) (by k_is) (by decide) ?_ rfl rfl (by decide))))))
    refine split_bool (fun hc => ?_) (fun hc => ?_)
    · refine wpAny_execs_cons ?_
      refine wpAny_Assign_Name ?_ (by with_unfolding_all rfl)
      (repeat (first | with_reducible refine wpAny_BinOp ?_ | with_reducible refine wpAny_Constant_int ?_ | ((with_reducible show wpAny _ _ (eval (Expr.Name _ _) _) _ _ _); (first | (refine nameX_L (v := _) F (by (repeat (first | with_reducible assumption | with_reducible exact up_eq _ _ _ | refine (up_ne (by decide)).trans ?_ | exact rfl))) ?_ rfl rfl (by decide)) | (refine nameX_C (c := _) (o := _) (v := _) N rfl (by k_mem) (by assumption) ?_ rfl rfl (by decide)) | (refine r_glob G F (by k_is) ?_ rfl rfl (by decide)) | (refine r_boot G F (by boot_fast) (by k_is) (by decide) ?_ rfl rfl (by decide))))))
      refine mod_int' (by decide) ?_
      obtain ⟨z, hz, hzl⟩ := fmod_nat ((n₀ : Nat) : Int) (k := 2) (by decide)
      rw [hz]
      (repeat (first | with_reducible refine add_int ?_))
      rw [show (2 : Int) + (z : Nat) = ((2 + z : Nat) : Int) by (first | lia | omega)]
      refine r_storeC F rfl (N.get (.head _)) cnL cng do₃ (fun h₄ o₄ F' ho₄ do₄ mv₄ => ?_) rfl rfl
      refine wpAny_execs_nil ?_
      exact ⟨rfl, sS.set _ _, fun b o e => mv₄ b o (Nat.ne_of_lt (Nat.lt_of_lt_of_le (Heap.lt_size e) (Nat.le_succ_of_le (Nat.le_succ_of_le hzL)))) (kS b o e), 2 + z, _, o₄, by (first | lia | omega), fun _ => Nat.le_add_right _ _, do₄, F',
        news_cons (news_cons News.nil (mv₄ _ _ (Nat.ne_of_lt (Nat.lt_succ_self _)) (N.get (.tail _ (.head _)))) csL csg) ho₄ cnL cng⟩
    · refine wpAny_execs_nil ?_
      have hc' : ¬ 2 ≤ kd := by
        have : ¬ ((kd : Nat) : Int) ≥ 2 := by simpa using hc
        (first | lia | omega)
      exact ⟨rfl, sS.set _ _, kS, n₀, _, o₃, by (first | lia | omega), fun q => absurd q hc', do₃, F, N⟩
  rintro f s₄ ⟨rfl, sS', kS', n, tn, on, hn3, hn2, dn, F', N'⟩
  clear F N kS sS do₃
  have F := F'
  have N := N'
  have kS := kS'
  have sS := sS'
  clear F' N' kS' sS'
  show wpAny _ _ _ _ _ _
  refine wpAny_execs_cons ?_
  refine comp_assign (g := g) (cl := [("script", L + 1), ("n", L + 1 + 1)]) rfl rfl (by decide) rfl (by decide) rfl rfl rfl ?_ (fun _ => rfl)
  (repeat (first | with_reducible refine wpAny_BinOp ?_ | with_reducible refine wpAny_Constant_int ?_ | ((with_reducible show wpAny _ _ (eval (Expr.Name _ _) _) _ _ _); (first | (refine nameX_L (v := _) F (by (repeat (first | with_reducible assumption | with_reducible exact up_eq _ _ _ | refine (up_ne (by decide)).trans ?_ | exact rfl))) ?_ rfl rfl (by decide)) | (refine nameX_C (c := _) (o := _) (v := _) N rfl (by k_mem) (by assumption) ?_ rfl rfl (by decide)) | (refine r_glob G F (by k_is) ?_ rfl rfl (by decide)) | (refine r_boot G F (by boot_fast) (by k_is) (by decide) ?_ rfl rfl (by decide)))) | (with_reducible refine args_cons ?_ rfl) | (with_reducible refine args_nil ?_) | ((with_reducible show Keep _ _ ∧ _); refine And.intro F.keep ?_) | ((with_reducible show wpAny _ _ (callWith _ (Value.ref _) [] _ []) _ _ _); refine r_callf G (by k_is) ?_ rfl rfl) | ((with_reducible show wpAny _ _ (callWith _ (Value.type _) [] _ []) _ _ _); refine Pv.callWith_type1 ?_ rfl rfl) | (with_reducible refine Call_ ?_ rfl)))
  refine cell_ok (i := 2) (G.keeps F.keep) ((Rm.less (by decide)).deeper _) (stays_list F.keep hl₀) hi hs1 (by decide) (fun tc s₅ sm₅ kp₅ _ => ?_)
  replace F := F.keeps kp₅
  replace N := N.grown kp₅
  replace kS := kS.trans kp₅
  replace sS := (sS.set _ _).trans sm₅
  (repeat (first | with_reducible refine wpAny_Constant_int ?_))
  refine mod_int' (by decide) ?_
  obtain ⟨k₁, hk₁, hkl₁⟩ := fmod_nat (ns.getD 2 0) (k := 4) (by decide)
  rw [hk₁]
  (repeat (first | with_reducible refine add_int ?_ | (with_reducible refine args_nil ?_)))
  (refine r_range2 F N ?_; clear F N; intro r h tk t0 u0 v0 F N hr hkr)
  replace kS := kS.trans hkr
  refine wpAny_mono (src_range (n := k₁) (show A.handled = none from Rm.handled) hr (smA (by decide) (by decide) (by (first | lia | omega))) (szA _ _)) (fun it s₆ hit => ?_) fun _ _ e => e
  refine drawn_in (s := { s₅ with heap := h, toks := tk }) (a₀ := 4) (n := n) (k := k₁) (G.keeps F.keep) ((Rm.less (by decide)).deeper _) (stays_list F.keep hl₀) hi hs1 ⟨os, N.get (.tail _ (.head _)), ds⟩ ⟨on, N.get (.head _), dn⟩ (by decide) (by (first | lia | omega)) rfl (fun _ => rfl) (fun _ => rfl) (fun _ => rfl) (fun _ => rfl) (fun _ => rfl) (fun _ => rfl) (fun _ => rfl) (fun _ => rfl) hit ?_
  intro C a ys css s₇ hCD hC hD hvc hlc hec hp hy sm kp hpl
  obtain ⟨_, _, _, _, _, _, _, _, k₂⟩ := hit
  refine fin_K F N kS hzL k₂ kp hC hD (fun h tk F' N' kS' mvll mkll => ?_)
  have hcs := mkll hp hy
  replace F := F'
  replace N := N'
  replace kS := kS'
  replace sS := ((sS.set _ _).trans sm).set h tk
  clear F' N' kS' mvll mkll hp hy hpl hC hD hCD k₂ kp hr hkr sm
  show wpAny _ _ _ _ _ _
  refine wpAny_execs_cons ?_
  refine comp_assign (g := g) (cl := [("script", L + 1), ("n", L + 1 + 1)]) rfl rfl (by decide) rfl (by decide) rfl rfl rfl ?_ (fun _ => rfl)
  (repeat (first | with_reducible refine wpAny_BinOp ?_ | with_reducible refine wpAny_Constant_int ?_ | ((with_reducible show wpAny _ _ (eval (Expr.Name _ _) _) _ _ _); (first | (refine nameX_L (v := _) F (by (repeat (first | with_reducible assumption | with_reducible exact up_eq _ _ _ | refine (up_ne (by decide)).trans ?_ | exact rfl))) ?_ rfl rfl (by decide)) | (refine nameX_C (c := _) (o := _) (v := _) N rfl (by k_mem) (by assumption) ?_ rfl rfl (by decide)) | (refine r_glob G F (by k_is) ?_ rfl rfl (by decide)) | (refine r_boot G F (by boot_fast) (by k_is) (by decide) ?_ rfl rfl (by decide)))) | (with_reducible refine args_cons ?_ rfl) | (with_reducible refine args_nil ?_) | ((with_reducible show Keep _ _ ∧ _); refine And.intro F.keep ?_) | ((with_reducible show wpAny _ _ (callWith _ (Value.ref _) [] _ []) _ _ _); refine r_callf G (by k_is) ?_ rfl rfl) | ((with_reducible show wpAny _ _ (callWith _ (Value.type _) [] _ []) _ _ _); refine Pv.callWith_type1 ?_ rfl rfl) | (with_reducible refine Call_ ?_ rfl)))
  refine cell_ok (i := 3) (G.keeps F.keep) ((Rm.less (by decide)).deeper _) (stays_list F.keep hl₀) hi hs1 (by decide) (fun tc s₅ sm₅ kp₅ _ => ?_)
  replace F := F.keeps kp₅
  replace N := N.grown kp₅
  replace kS := kS.trans kp₅
  replace sS := (sS.set _ _).trans sm₅
  replace hcs := hcs.keep kp₅
  (repeat (first | with_reducible refine wpAny_Constant_int ?_))
  refine mod_int' (by decide) ?_
  obtain ⟨k₂, hk₂, hkl₂⟩ := fmod_nat (ns.getD 3 0) (k := 3) (by decide)
  rw [hk₂]
  (repeat (first | with_reducible refine add_int ?_ | (with_reducible refine args_nil ?_)))
  (refine r_range2 F N ?_; clear F N; intro r h tk t0 u0 v0 F N hr hkr)
  replace kS := kS.trans hkr
  replace hcs := hcs.keep hkr
  refine wpAny_mono (src_range (n := k₂) (show A.handled = none from Rm.handled) hr (smA (by decide) (by decide) (by (first | lia | omega))) (szA _ _)) (fun it s₆ hit => ?_) fun _ _ e => e
  refine drawn_in (s := { s₅ with heap := h, toks := tk }) (a₀ := 7) (n := n) (k := k₂) (G.keeps F.keep) ((Rm.less (by decide)).deeper _) (stays_list F.keep hl₀) hi hs1 ⟨os, N.get (.tail _ (.head _)), ds⟩ ⟨on, N.get (.head _), dn⟩ (by decide) (by (first | lia | omega)) rfl (fun _ => rfl) (fun _ => rfl) (fun _ => rfl) (fun _ => rfl) (fun _ => rfl) (fun _ => rfl) (fun _ => rfl) (fun _ => rfl) hit ?_
  intro C b ys pr s₇ hCD hC hD hvp hlp hep hp hy sm kp hpl
  obtain ⟨_, _, _, _, _, _, _, _, k₂⟩ := hit
  refine fin_K F N kS hzL k₂ kp hC hD (fun h tk F' N' kS' mvll mkll => ?_)
  have hpr := mkll hp hy
  replace hcs := mvll hcs
  replace F := F'
  replace N := N'
  replace kS := kS'
  replace sS := ((sS.set _ _).trans sm).set h tk
  clear F' N' kS' mvll mkll hp hy hpl hC hD hCD k₂ kp hr hkr sm
  obtain ⟨m', F', hmk', hmc, hmp⟩ : ∃ m', Fr g L h m' ∧ m' "kind" = some (.int (kd : Nat) tkd) ∧ m' "clauses" = some (.ref a) ∧ m' "proof" = some (.ref b) := ⟨_, F, (up_ne (by decide)).trans ((up_ne (by decide)).trans hmk), (up_ne (by decide)).trans (up_eq _ _ _), up_eq _ _ _⟩
  replace F := F'
  replace hmk := hmk'
  clear F' hmk'
  show wpAny _ _ _ _ _ _
  refine wpAny_execs_cons ?_
  refine wpAny_mono (Q := fun f s' => f = .next ∧ Same s s' ∧ Keep s.heap s'.heap ∧ ∃ (b : Addr) (pr : List (List Int)) (m : Str → Option Value), Fr g L s'.heap m ∧ News g L s'.heap [(L + 1 + 1, on), (L + 1, os)] ∧ m "kind" = some (.int (kd : Nat) tkd) ∧ m "clauses" = some (.ref a) ∧ m "proof" = some (.ref b) ∧
    IsLL s'.heap a css ∧ IsLL s'.heap b pr ∧ ValidCs n pr ∧ pr.length ≤ 3 ∧ ∀ c ∈ pr, c.length ≤ 3) ?_ ?_ fun _ _ e => e
  · refine wpAny_If ?_
    (repeat (first | (with_reducible refine wpAny_isTrue_Compare1 ?_ (by with_unfolding_all rfl)) | with_reducible refine wpAny_Constant_int ?_ | with_reducible refine P.ge_int ?_ | with_reducible refine wpAny_truthy_bool ?_ | ((with_reducible show wpAny _ _ (eval (Expr.Name _ _) _) _ _ _); (first | (refine nameX_L (v := _) F (by (repeat (first | with_reducible assumption | with_reducible exact up_eq _ _ _ | refine (up_ne (by decide)).trans ?_ | exact rfl))) ?_ rfl rfl (by decide)) | (refine nameX_C (c := _) (o := _) (v := _) N rfl (by k_mem) (by assumption) ?_ rfl rfl (by decide)) | (refine r_glob G F (by k_is) ?_ rfl rfl (by decide)) | (refine r_boot G F (by boot_fast) (by k_is) (by decide) ?_ rfl rfl (by decide))))))
    refine split_bool (fun hc => ?_) (fun hc => ?_)
    · refine wpAny_execs_cons ?_
      refine wpAny_Assign_Name ?_ (by with_unfolding_all rfl)
      refine wpAny_BinOp ?_
      refine nameX_L (v := _) F hmp ?_ rfl rfl (by decide)
      refine List_ ?_
      refine args_cons ?_ rfl
      refine List_ ?_
      refine args_nil ?_
      refine r_newL (by decide) (fun D₁ h₁ kp₁ e₁ => ?_)
      refine args_nil ?_
      refine r_newL (by simp) (fun D₂ h₂ kp₂ e₂ => ?_)
      have kp₃ := kp₁.trans kp₂
      refine r_plus (hpr.keep kp₃) (ll_one e₂ ⟨D₁, [], rfl, IsL.isList (kp₂ _ _ e₁), IntsAre.nil⟩) (by simp only [List.length_cons, List.length_nil]; (first | lia | omega)) (fun D h₃ kp₄ hD => ?_)
      replace kp₄ := kp₃.trans kp₄
      replace F := F.keeps kp₄
      replace N := N.grown kp₄
      replace kS := kS.trans kp₄
      replace hcs := hcs.keep kp₄
      (refine r_storeK F N kS hzL (fun h tk F' N' kS' T => ?_) rfl rfl; replace F := F'; replace N := N'; replace kS := kS'; replace sS := sS.set h tk; clear F' N' kS')
      refine wpAny_execs_nil ?_
      exact ⟨rfl, sS.set _ _, kS, D, _, _, F, N, (up_ne (by decide)).trans hmk, (up_ne (by decide)).trans hmc, up_eq _ _ _, T.ll hcs, T.ll hD, validCs_snoc hvp (by intro x hx; cases hx), by rw [List.length_append]; simp only [List.length_cons, List.length_nil]; (first | lia | omega), each_snoc hep (Nat.zero_le _)⟩
    · refine wpAny_execs_nil ?_
      exact ⟨rfl, sS.set _ _, kS, b, pr, _, F, N, hmk, hmc, hmp, hcs, hpr, hvp, by (first | lia | omega), hep⟩
  rintro f s₈ ⟨rfl, sS', kS', b, pr, m, F', N', hmk, hmc, hmp, hcs, hpr, hvp, hlp, hep⟩
  clear F N kS sS
  have F := F'
  have N := N'
  have kS := kS'
  have sS := sS'
  clear F' N' kS' sS'
  show wpAny _ _ _ _ _ _
  refine wpAny_execs_cons ?_
  refine wpAny_mono (Q := fun f s' => f = .next ∧ Same s s' ∧ Keep s.heap s'.heap ∧ ∃ (a b : Addr) (css pr : List (List Int)) (m : Str → Option Value), Fr g L s'.heap m ∧ News g L s'.heap [(L + 1 + 1, on), (L + 1, os)] ∧ m "kind" = some (.int (kd : Nat) tkd) ∧ m "clauses" = some (.ref a) ∧ m "proof" = some (.ref b) ∧
    IsLL s'.heap a css ∧ IsLL s'.heap b pr ∧ Drawn kd n css pr ∧ (kd = 3 → checksF css n pr = true)) ?_ ?_ fun _ _ e => e
  · refine wpAny_If ?_
    (repeat (first | (with_reducible refine wpAny_isTrue_Compare1 ?_ (by with_unfolding_all rfl)) | with_reducible refine wpAny_Constant_int ?_ | with_reducible refine P.ge_int ?_ | with_reducible refine wpAny_truthy_bool ?_ | ((with_reducible show wpAny _ _ (eval (Expr.Name _ _) _) _ _ _); (first | (refine nameX_L (v := _) F (by (repeat (first | with_reducible assumption | with_reducible exact up_eq _ _ _ | refine (up_ne (by decide)).trans ?_ | exact rfl))) ?_ rfl rfl (by decide)) | (refine nameX_C (c := _) (o := _) (v := _) N rfl (by k_mem) (by assumption) ?_ rfl rfl (by decide)) | (refine r_glob G F (by k_is) ?_ rfl rfl (by decide)) | (refine r_boot G F (by boot_fast) (by k_is) (by decide) ?_ rfl rfl (by decide))))))
    refine split_bool (fun hc => ?_) (fun hc => ?_)
    · have hk2 : 2 ≤ kd := by
        have : ((kd : Nat) : Int) ≥ 2 := by simpa using hc
        (first | lia | omega)
      have hn2 := hn2 hk2
      refine wpAny_execs_cons ?_
      refine wpAny_Assign_Name ?_ (by with_unfolding_all rfl)
      (repeat (first | with_reducible refine wpAny_BinOp ?_ | with_reducible refine wpAny_Constant_int ?_ | ((with_reducible show wpAny _ _ (eval (Expr.Name _ _) _) _ _ _); (first | (refine nameX_L (v := _) F (by (repeat (first | with_reducible assumption | with_reducible exact up_eq _ _ _ | refine (up_ne (by decide)).trans ?_ | exact rfl))) ?_ rfl rfl (by decide)) | (refine nameX_C (c := _) (o := _) (v := _) N rfl (by k_mem) (by assumption) ?_ rfl rfl (by decide)) | (refine r_glob G F (by k_is) ?_ rfl rfl (by decide)) | (refine r_boot G F (by boot_fast) (by k_is) (by decide) ?_ rfl rfl (by decide)))) | (with_reducible refine args_cons ?_ rfl) | (with_reducible refine args_nil ?_) | ((with_reducible show Keep _ _ ∧ _); refine And.intro F.keep ?_) | ((with_reducible show wpAny _ _ (callWith _ (Value.ref _) [] _ []) _ _ _); refine r_callf G (by k_is) ?_ rfl rfl) | (with_reducible refine Call_ ?_ rfl)))
      refine cell_ok (i := 9) (G.keeps F.keep) ((Rm.less (by decide)).deeper _) (stays_list F.keep hl₀) hi hs1 (by decide) (fun tc s₅ sm₅ kp₅ _ => ?_)
      replace F := F.keeps kp₅
      replace N := N.grown kp₅
      replace kS := kS.trans kp₅
      replace sS := (sS.set _ _).trans sm₅
      replace hcs := hcs.keep kp₅
      replace hpr := hpr.keep kp₅
      (repeat (first | with_reducible refine wpAny_Constant_int ?_))
      refine mod_int' (by decide) ?_
      obtain ⟨z₁, hz₁, hzl₁⟩ := fmod_nat (ns.getD 9 0) (k := 2) (by decide)
      rw [hz₁]
      refine mul_int ?_ (by mul_fits)
      refine sub_int ?_
      have hva : Valid n (1 - 2 * ((z₁ : Nat) : Int)) := ⟨by (first | lia | omega), by (first | lia | omega)⟩
      generalize (1 : Int) - 2 * (z₁ : Nat) = av at *
      (refine r_storeK F N kS hzL (fun h tk F' N' kS' T => ?_) rfl rfl; replace F := F'; replace N := N'; replace kS := kS'; replace sS := sS.set h tk; clear F' N' kS')
      replace hcs := T.ll hcs
      replace hpr := T.ll hpr
      clear T
      refine wpAny_execs_cons ?_
      refine wpAny_Assign_Name ?_ (by with_unfolding_all rfl)
      (repeat (first | with_reducible refine wpAny_BinOp ?_ | with_reducible refine wpAny_Constant_int ?_ | ((with_reducible show wpAny _ _ (eval (Expr.Name _ _) _) _ _ _); (first | (refine nameX_L (v := _) F (by (repeat (first | with_reducible assumption | with_reducible exact up_eq _ _ _ | refine (up_ne (by decide)).trans ?_ | exact rfl))) ?_ rfl rfl (by decide)) | (refine nameX_C (c := _) (o := _) (v := _) N rfl (by k_mem) (by assumption) ?_ rfl rfl (by decide)) | (refine r_glob G F (by k_is) ?_ rfl rfl (by decide)) | (refine r_boot G F (by boot_fast) (by k_is) (by decide) ?_ rfl rfl (by decide)))) | (with_reducible refine args_cons ?_ rfl) | (with_reducible refine args_nil ?_) | ((with_reducible show Keep _ _ ∧ _); refine And.intro F.keep ?_) | ((with_reducible show wpAny _ _ (callWith _ (Value.ref _) [] _ []) _ _ _); refine r_callf G (by k_is) ?_ rfl rfl) | (with_reducible refine Call_ ?_ rfl)))
      refine cell_ok (i := 10) (G.keeps F.keep) ((Rm.less (by decide)).deeper _) (stays_list F.keep hl₀) hi hs1 (by decide) (fun tc s₅ sm₅ kp₅ _ => ?_)
      replace F := F.keeps kp₅
      replace N := N.grown kp₅
      replace kS := kS.trans kp₅
      replace sS := (sS.set _ _).trans sm₅
      replace hcs := hcs.keep kp₅
      replace hpr := hpr.keep kp₅
      (repeat (first | with_reducible refine wpAny_Constant_int ?_))
      refine mod_int' (by decide) ?_
      obtain ⟨z₂, hz₂, hzl₂⟩ := fmod_nat (ns.getD 10 0) (k := 2) (by decide)
      rw [hz₂]
      refine mul_int ?_ (by mul_fits)
      refine sub_int ?_
      refine mul_int ?_ (by mul_fits)
      have hvb : Valid n (((n : Nat) : Int) * (1 - 2 * ((z₂ : Nat) : Int))) := by
        have q : z₂ = 0 ∨ z₂ = 1 := by (first | lia | omega)
        rcases q with rfl | rfl
        · exact ⟨by simp; (first | lia | omega), by simp⟩
        · exact ⟨by simp; (first | lia | omega), by simp⟩
      generalize ((n : Nat) : Int) * (1 - 2 * ((z₂ : Nat) : Int)) = bv at *
      (refine r_storeK F N kS hzL (fun h tk F' N' kS' T => ?_) rfl rfl; replace F := F'; replace N := N'; replace kS := kS'; replace sS := sS.set h tk; clear F' N' kS')
      replace hcs := T.ll hcs
      replace hpr := T.ll hpr
      clear T
      refine wpAny_execs_cons ?_
      refine wpAny_Assign_Name ?_ (by with_unfolding_all rfl)
      refine wpAny_BinOp ?_
      (first | (refine nameX_L (v := _) F (by (repeat (first | with_reducible assumption | with_reducible exact up_eq _ _ _ | refine (up_ne (by decide)).trans ?_ | exact rfl))) ?_ rfl rfl (by decide)) | (refine nameX_C (c := _) (o := _) (v := _) N rfl (by k_mem) (by assumption) ?_ rfl rfl (by decide)) | (refine r_glob G F (by k_is) ?_ rfl rfl (by decide)) | (refine r_boot G F (by boot_fast) (by k_is) (by decide) ?_ rfl rfl (by decide)))
      refine List_ ?_
      refine args_cons ?_ rfl
      (repeat (first | with_reducible refine List_ ?_ | (with_reducible refine args_cons ?_ rfl) | (with_reducible refine args_nil ?_) | with_reducible refine UnaryOp_ ?_ | with_reducible refine P.neg_int ?_ | ((with_reducible show wpAny _ _ (eval (Expr.Name _ _) _) _ _ _); (first | (refine nameX_L (v := _) F (by (repeat (first | with_reducible assumption | with_reducible exact up_eq _ _ _ | refine (up_ne (by decide)).trans ?_ | exact rfl))) ?_ rfl rfl (by decide)) | (refine nameX_C (c := _) (o := _) (v := _) N rfl (by k_mem) (by assumption) ?_ rfl rfl (by decide)) | (refine r_glob G F (by k_is) ?_ rfl rfl (by decide)) | (refine r_boot G F (by boot_fast) (by k_is) (by decide) ?_ rfl rfl (by decide))))))
      refine r_newL (by simp) (fun D₁ h₁ kp₁ e₁ => ?_)
      replace F := F.keeps kp₁
      replace N := N.grown kp₁
      refine args_cons ?_ rfl
      (repeat (first | with_reducible refine List_ ?_ | (with_reducible refine args_cons ?_ rfl) | (with_reducible refine args_nil ?_) | with_reducible refine UnaryOp_ ?_ | with_reducible refine P.neg_int ?_ | ((with_reducible show wpAny _ _ (eval (Expr.Name _ _) _) _ _ _); (first | (refine nameX_L (v := _) F (by (repeat (first | with_reducible assumption | with_reducible exact up_eq _ _ _ | refine (up_ne (by decide)).trans ?_ | exact rfl))) ?_ rfl rfl (by decide)) | (refine nameX_C (c := _) (o := _) (v := _) N rfl (by k_mem) (by assumption) ?_ rfl rfl (by decide)) | (refine r_glob G F (by k_is) ?_ rfl rfl (by decide)) | (refine r_boot G F (by boot_fast) (by k_is) (by decide) ?_ rfl rfl (by decide))))))
      refine r_newL (by simp) (fun D₂ h₂ kp₂ e₂ => ?_)
      replace F := F.keeps kp₂
      replace N := N.grown kp₂
      refine args_cons ?_ rfl
      (repeat (first | with_reducible refine List_ ?_ | (with_reducible refine args_cons ?_ rfl) | (with_reducible refine args_nil ?_) | with_reducible refine UnaryOp_ ?_ | with_reducible refine P.neg_int ?_ | ((with_reducible show wpAny _ _ (eval (Expr.Name _ _) _) _ _ _); (first | (refine nameX_L (v := _) F (by (repeat (first | with_reducible assumption | with_reducible exact up_eq _ _ _ | refine (up_ne (by decide)).trans ?_ | exact rfl))) ?_ rfl rfl (by decide)) | (refine nameX_C (c := _) (o := _) (v := _) N rfl (by k_mem) (by assumption) ?_ rfl rfl (by decide)) | (refine r_glob G F (by k_is) ?_ rfl rfl (by decide)) | (refine r_boot G F (by boot_fast) (by k_is) (by decide) ?_ rfl rfl (by decide))))))
      refine r_newL (by simp) (fun D₃ h₃ kp₃ e₃ => ?_)
      replace F := F.keeps kp₃
      replace N := N.grown kp₃
      refine args_cons ?_ rfl
      (repeat (first | with_reducible refine List_ ?_ | (with_reducible refine args_cons ?_ rfl) | (with_reducible refine args_nil ?_) | with_reducible refine UnaryOp_ ?_ | with_reducible refine P.neg_int ?_ | ((with_reducible show wpAny _ _ (eval (Expr.Name _ _) _) _ _ _); (first | (refine nameX_L (v := _) F (by (repeat (first | with_reducible assumption | with_reducible exact up_eq _ _ _ | refine (up_ne (by decide)).trans ?_ | exact rfl))) ?_ rfl rfl (by decide)) | (refine nameX_C (c := _) (o := _) (v := _) N rfl (by k_mem) (by assumption) ?_ rfl rfl (by decide)) | (refine r_glob G F (by k_is) ?_ rfl rfl (by decide)) | (refine r_boot G F (by boot_fast) (by k_is) (by decide) ?_ rfl rfl (by decide))))))
      refine r_newL (by simp) (fun D₄ h₄ kp₄ e₄ => ?_)
      refine args_nil ?_
      refine r_newL (by simp) (fun D₅ h₅ kp₅ e₅ => ?_)
      have k₄ : Keep h₄ h₅ := kp₅
      have k₃ : Keep h₃ h₅ := Keep.trans kp₄ k₄
      have k₂ : Keep h₂ h₅ := Keep.trans kp₃ k₃
      have k₁ : Keep h₁ h₅ := Keep.trans kp₂ k₂
      have k₀ := Keep.trans kp₁ k₁
      have two : ∀ {D : Addr} {x y : Int} {t u : Tok} {q : Nat}, h₅.get? D = some (listOf [.int x t, .int y u].toArray q) → IsI h₅ (.ref D) [x, y] := fun {D x y t u q} e => ⟨D, _, rfl, IsL.isList e, IntsAre.cons _ _ (IntsAre.cons _ _ IntsAre.nil)⟩
      have hcl : IsLL h₅ D₅ [[av, bv], [av, -bv], [-av, bv], [-av, -bv]] := ⟨_, IsL.isList e₅, .cons (two (k₁ _ _ e₁)) (.cons (two (k₂ _ _ e₂)) (.cons (two (k₃ _ _ e₃)) (.cons (two (k₄ _ _ e₄)) .nil)))⟩
      clear two e₁ e₂ e₃ e₄ e₅
      replace F := F.keeps (Keep.trans kp₄ kp₅)
      replace N := N.grown (Keep.trans kp₄ kp₅)
      refine r_plus (hcs.keep k₀) hcl (by simp only [List.length_cons, List.length_nil]; (first | lia | omega)) (fun D h₆ kp₆ hD => ?_)
      replace F := F.keeps kp₆
      replace N := N.grown kp₆
      replace kS := kS.trans (Keep.trans k₀ kp₆)
      replace hpr := hpr.keep (Keep.trans k₀ kp₆)
      clear kp₁ kp₂ kp₃ kp₄ kp₅ kp₆ k₀ k₁ k₂ k₃ k₄ hcl
      (refine r_storeK F N kS hzL (fun h tk F' N' kS' T => ?_) rfl rfl; replace F := F'; replace N := N'; replace kS := kS'; replace sS := sS.set h tk; clear F' N' kS')
      replace hD := T.ll hD
      replace hpr := T.ll hpr
      clear T
      have hvq : ValidCs n [[av, bv], [av, -bv], [-av, bv], [-av, -bv]] := by
        intro c hc x hx
        simp only [List.mem_cons, List.not_mem_nil, or_false] at hc
        rcases hc with q | q | q | q <;> rw [q] at hx <;> simp only [List.mem_cons, List.not_mem_nil, or_false] at hx <;> rcases hx with r | r <;> rw [r] <;> first | exact hva | exact hvb | exact hva.neg | exact hvb.neg
      have heq : ∀ c ∈ [[av, bv], [av, -bv], [-av, bv], [-av, -bv]], c.length ≤ 3 := by
        intro c hc
        simp only [List.mem_cons, List.not_mem_nil, or_false] at hc
        rcases hc with q | q | q | q <;> rw [q] <;> exact Nat.le_succ _
      have hlq : (css ++ [[av, bv], [av, -bv], [-av, bv], [-av, -bv]]).length ≤ 7 := by rw [List.length_append]; simp only [List.length_cons, List.length_nil]; (first | lia | omega)
      refine wpAny_execs_cons ?_
      refine wpAny_mono (Q := fun f s' => f = .next ∧ Same s s' ∧ Keep s.heap s'.heap ∧ ∃ (b : Addr) (pr : List (List Int)) (m : Str → Option Value), Fr g L s'.heap m ∧ News g L s'.heap [(L + 1 + 1, on), (L + 1, os)] ∧ m "kind" = some (.int (kd : Nat) tkd) ∧ m "clauses" = some (.ref D) ∧ m "proof" = some (.ref b) ∧
        IsLL s'.heap D (css ++ [[av, bv], [av, -bv], [-av, bv], [-av, -bv]]) ∧ IsLL s'.heap b pr ∧ ValidCs n pr ∧ pr.length ≤ 3 ∧ (∀ c ∈ pr, c.length ≤ 3) ∧ (kd = 3 → pr = [[-av], []])) ?_ ?_ fun _ _ e => e
      · refine wpAny_If ?_
        (repeat (first | (with_reducible refine wpAny_isTrue_Compare1 ?_ (by with_unfolding_all rfl)) | with_reducible refine wpAny_Constant_int ?_ | with_reducible refine eq_int ?_ | with_reducible refine wpAny_truthy_bool ?_ | ((with_reducible show wpAny _ _ (eval (Expr.Name _ _) _) _ _ _); (first | (refine nameX_L (v := _) F (by (repeat (first | with_reducible assumption | with_reducible exact up_eq _ _ _ | refine (up_ne (by decide)).trans ?_ | exact rfl))) ?_ rfl rfl (by decide)) | (refine nameX_C (c := _) (o := _) (v := _) N rfl (by k_mem) (by assumption) ?_ rfl rfl (by decide)) | (refine r_glob G F (by k_is) ?_ rfl rfl (by decide)) | (refine r_boot G F (by boot_fast) (by k_is) (by decide) ?_ rfl rfl (by decide))))))
        refine split_bool (fun hc => ?_) (fun hc => ?_)
        · refine wpAny_execs_cons ?_
          refine wpAny_Assign_Name ?_ (by with_unfolding_all rfl)
          refine List_ ?_
          refine args_cons ?_ rfl
          (repeat (first | with_reducible refine List_ ?_ | (with_reducible refine args_cons ?_ rfl) | (with_reducible refine args_nil ?_) | with_reducible refine UnaryOp_ ?_ | with_reducible refine P.neg_int ?_ | ((with_reducible show wpAny _ _ (eval (Expr.Name _ _) _) _ _ _); (first | (refine nameX_L (v := _) F (by (repeat (first | with_reducible assumption | with_reducible exact up_eq _ _ _ | refine (up_ne (by decide)).trans ?_ | exact rfl))) ?_ rfl rfl (by decide)) | (refine nameX_C (c := _) (o := _) (v := _) N rfl (by k_mem) (by assumption) ?_ rfl rfl (by decide)) | (refine r_glob G F (by k_is) ?_ rfl rfl (by decide)) | (refine r_boot G F (by boot_fast) (by k_is) (by decide) ?_ rfl rfl (by decide))))))
          refine r_newL (by simp) (fun D₁ h₁ kp₁ e₁ => ?_)
          refine args_cons ?_ rfl
          refine List_ ?_
          refine args_nil ?_
          refine r_newL (by simp) (fun D₂ h₂ kp₂ e₂ => ?_)
          refine args_nil ?_
          refine r_newL (by simp) (fun D₃ h₃ kp₃ e₃ => ?_)
          have k₃ : Keep h₂ h₃ := kp₃
          have k₂ : Keep h₁ h₃ := Keep.trans kp₂ k₃
          have k₁ := Keep.trans kp₁ k₂
          have hD₃ : IsLL h₃ D₃ [[-av], []] := ⟨_, IsL.isList e₃, .cons ⟨D₁, _, rfl, IsL.isList (k₂ _ _ e₁), IntsAre.cons _ _ IntsAre.nil⟩ (.cons ⟨D₂, _, rfl, IsL.isList (k₃ _ _ e₂), IntsAre.nil⟩ .nil)⟩
          replace F := F.keeps k₁
          replace N := N.grown k₁
          replace kS := kS.trans k₁
          replace hD := hD.keep k₁
          (refine r_storeK F N kS hzL (fun h tk F' N' kS' T => ?_) rfl rfl; replace F := F'; replace N := N'; replace kS := kS'; replace sS := sS.set h tk; clear F' N' kS')
          refine wpAny_execs_nil ?_
          exact ⟨rfl, sS.set _ _, kS, D₃, _, _, F, N, (up_ne (by decide)).trans ((up_ne (by decide)).trans ((up_ne (by decide)).trans ((up_ne (by decide)).trans hmk))), (up_ne (by decide)).trans (up_eq _ _ _), up_eq _ _ _, T.ll hD, T.ll hD₃,
            (by intro c hc x hx; simp only [List.mem_cons, List.not_mem_nil, or_false] at hc; rcases hc with q | q <;> rw [q] at hx; · rw [List.mem_singleton.mp hx]; exact hva.neg
                · cases hx), by simp, (by intro c hc; simp only [List.mem_cons, List.not_mem_nil, or_false] at hc; rcases hc with q | q <;> rw [q] <;> simp), fun _ => rfl⟩
        · refine wpAny_execs_nil ?_
          have hc' : kd ≠ 3 := by
            have : ¬ ((kd : Nat) : Int) = 3 := by simpa using hc
            (first | lia | omega)
          exact ⟨rfl, sS.set _ _, kS, b, pr, _, F, N, (up_ne (by decide)).trans ((up_ne (by decide)).trans ((up_ne (by decide)).trans hmk)), up_eq _ _ _, (up_ne (by decide)).trans ((up_ne (by decide)).trans ((up_ne (by decide)).trans hmp)), hD, hpr, hvp, hlp, hep, fun q => absurd q hc'⟩
      rintro f s₉ ⟨rfl, sS', kS', b', pr', m', F', N', hmk', hmc', hmp', hcs', hpr', hvp', hlp', hep', h3⟩
      refine wpAny_execs_nil ?_
      exact ⟨rfl, sS', kS', D, b', _, pr', m', F', N', hmk', hmc', hmp', hcs', hpr', ⟨validCs_app hvc hvq, hvp', hlq, hlp', each_app hec heq, hep'⟩, fun q => by rw [h3 q]; exact clash_refuted hvc hva hvb⟩
    · refine wpAny_execs_nil ?_
      have hc' : ¬ 2 ≤ kd := by
        have : ¬ ((kd : Nat) : Int) ≥ 2 := by simpa using hc
        (first | lia | omega)
      exact ⟨rfl, sS.set _ _, kS, a, b, css, pr, m, F, N, hmk, hmc, hmp, hcs, hpr, ⟨hvc, hvp, by (first | lia | omega), hlp, hec, hep⟩, fun q => absurd (by (first | lia | omega)) hc'⟩
  rintro f s₉ ⟨rfl, sS', kS', a, b, css, pr, m, F', N', hmk, hmc, hmp, hcs, hpr, W, h3⟩
  clear F N kS sS
  have F := F'
  have N := N'
  have kS := kS'
  have sS := sS'
  clear F' N' kS' sS' hvc hec hlc hvp hlp hep
  have Sm : Small n (css ++ pr) := ⟨validCs_app W.vc W.vp, hn3, by rw [List.length_append]; have := W.lc; have := W.lp; (first | lia | omega), each_app (fun c hc => Nat.le_trans (W.ec c hc) (by decide)) fun c hc => Nat.le_trans (W.ep c hc) (by decide)⟩
  have lc := W.lc
  have lp := W.lp
  show wpAny _ _ _ _ _ _
  refine wpAny_execs_cons ?_
  refine comp_assign (g := g) (cl := []) rfl rfl (by decide) rfl (by decide) rfl rfl rfl ?_ (fun _ => rfl)
  refine nameX_L (v := _) F hmc ?_ rfl rfl (by decide)
  obtain ⟨cvs, hca, hcp⟩ := id hcs
  refine wpAny_mono (src_list (show A.handled = none from Rm.handled) hca) (fun it s₃ hit => ?_) fun _ _ e => e
  refine copies_in (G.keeps F.keep) (by k_is) hcp (by rw [paired_len hcp]; (first | lia | omega)) (fun c hc => Nat.le_trans (W.ec c hc) (by decide)) rfl rfl (fun _ => rfl) (fun _ => rfl) (fun _ => rfl) (by decide) hit ?_
  intro C a' ys s₇ hCD hC hD hp hy sm kp hpl
  obtain ⟨_, _, _, _, _, _, _, _, k₂⟩ := hit
  refine fin_K F N kS hzL k₂ kp hC hD (fun h tk F' N' kS' mvll mkll => ?_)
  have hcb := mkll hp hy
  replace hcs := mvll hcs
  replace hpr := mvll hpr
  replace F := F'
  replace N := N'
  replace kS := kS'
  replace sS := ((sS.set _ _).trans sm).set h tk
  clear F' N' kS' mvll mkll hp hy hpl hC hD hCD k₂ kp sm hca hcp
  show wpAny _ _ _ _ _ _
  refine wpAny_execs_cons ?_
  refine comp_assign (g := g) (cl := []) rfl rfl (by decide) rfl (by decide) rfl rfl rfl ?_ (fun _ => rfl)
  refine nameX_L (v := _) F ((up_ne (by decide)).trans hmp) ?_ rfl rfl (by decide)
  obtain ⟨cvs, hca, hcp⟩ := id hpr
  refine wpAny_mono (src_list (show A.handled = none from Rm.handled) hca) (fun it s₃ hit => ?_) fun _ _ e => e
  refine copies_in (G.keeps F.keep) (by k_is) hcp (by rw [paired_len hcp]; (first | lia | omega)) (fun c hc => Nat.le_trans (W.ep c hc) (by decide)) rfl rfl (fun _ => rfl) (fun _ => rfl) (fun _ => rfl) (by decide) hit ?_
  intro C b' ys s₇ hCD hC hD hp hy sm kp hpl
  obtain ⟨_, _, _, _, _, _, _, _, k₂⟩ := hit
  refine fin_K F N kS hzL k₂ kp hC hD (fun h tk F' N' kS' mvll mkll => ?_)
  have hpb := mkll hp hy
  replace hcs := mvll hcs
  replace hpr := mvll hpr
  replace hcb := mvll hcb
  replace F := F'
  replace N := N'
  replace kS := kS'
  replace sS := ((sS.set _ _).trans sm).set h tk
  clear F' N' kS' mvll mkll hp hy hpl hC hD hCD k₂ kp sm hca hcp
  show wpAny _ _ _ _ _ _
  refine wpAny_execs_cons ?_
  refine wpAny_Assign_Name ?_ (by with_unfolding_all rfl)
  (repeat (first | ((with_reducible show wpAny _ _ (eval (Expr.Name _ _) _) _ _ _); (first | (refine nameX_L (v := _) F (by (repeat (first | with_reducible assumption | with_reducible exact up_eq _ _ _ | refine (up_ne (by decide)).trans ?_ | exact rfl))) ?_ rfl rfl (by decide)) | (refine nameX_C (c := _) (o := _) (v := _) N rfl (by k_mem) (by assumption) ?_ rfl rfl (by decide)) | (refine r_glob G F (by k_is) ?_ rfl rfl (by decide)) | (refine r_boot G F (by boot_fast) (by k_is) (by decide) ?_ rfl rfl (by decide)))) | (with_reducible refine args_cons ?_ rfl) | (with_reducible refine args_nil ?_) | ((with_reducible show Keep _ _ ∧ _); refine And.intro F.keep ?_) | ((with_reducible show wpAny _ _ (callWith _ (Value.ref _) [] _ []) _ _ _); refine r_callf G (by k_is) ?_ rfl rfl) | (with_reducible refine Call_ ?_ rfl)))
  refine sound_ok (G.keeps F.keep) ((Rm.less (by decide)).deeper _) hcs hpr Sm (fun s₁₀ sm₁₀ kp₁₀ => ?_)
  replace F := F.keeps kp₁₀
  replace N := N.grown kp₁₀
  replace kS := kS.trans kp₁₀
  replace sS := (sS.set _ _).trans sm₁₀
  replace hcs := hcs.keep kp₁₀
  replace hpr := hpr.keep kp₁₀
  replace hcb := hcb.keep kp₁₀
  replace hpb := hpb.keep kp₁₀
  (refine r_storeK F N kS hzL (fun h tk F' N' kS' T => ?_) rfl rfl; replace F := F'; replace N := N'; replace kS := kS'; replace sS := sS.set h tk; clear F' N' kS')
  replace hcs := T.ll hcs
  replace hpr := T.ll hpr
  replace hcb := T.ll hcb
  replace hpb := T.ll hpb
  clear T
  (repeat (first | with_reducible refine wpAny_execs_cons ?_ | with_reducible refine wpAny_If ?_ | (with_reducible refine wpAny_isTrue_Compare1 ?_ (by with_unfolding_all rfl)) | with_reducible refine Constant_bool ?_ | ((with_reducible show wpAny _ _ (eval (Expr.Name _ _) _) _ _ _); (first | (refine nameX_L (v := _) F (by (repeat (first | with_reducible assumption | with_reducible exact up_eq _ _ _ | refine (up_ne (by decide)).trans ?_ | exact rfl))) ?_ rfl rfl (by decide)) | (refine nameX_C (c := _) (o := _) (v := _) N rfl (by k_mem) (by assumption) ?_ rfl rfl (by decide)) | (refine r_glob G F (by k_is) ?_ rfl rfl (by decide)) | (refine r_boot G F (by boot_fast) (by k_is) (by decide) ?_ rfl rfl (by decide))))))
  refine isnot_bool ?_
  rw [show (true != true) = false from rfl]
  (repeat (first | with_reducible refine wpAny_truthy_bool ?_))
  simp only [Bool.false_eq_true, if_false]
  (repeat (first | with_reducible refine wpAny_execs_cons ?_ | with_reducible refine wpAny_execs_nil ?_ | with_reducible refine wpAny_If ?_ | (with_reducible refine wpAny_isTrue_Compare1 ?_ (by with_unfolding_all rfl)) | with_reducible refine isTrue_or ?_ | ((with_reducible show wpAny _ _ (eval (Expr.Name _ _) _) _ _ _); (first | (refine nameX_L (v := _) F (by (repeat (first | with_reducible assumption | with_reducible exact up_eq _ _ _ | refine (up_ne (by decide)).trans ?_ | exact rfl))) ?_ rfl rfl (by decide)) | (refine nameX_C (c := _) (o := _) (v := _) N rfl (by k_mem) (by assumption) ?_ rfl rfl (by decide)) | (refine r_glob G F (by k_is) ?_ rfl rfl (by decide)) | (refine r_boot G F (by boot_fast) (by k_is) (by decide) ?_ rfl rfl (by decide))))))
  refine r_ne_ll hcs hcb ?_ ?_
  · have := Rm.units
    show A.units + 3 + 64 < cLine
    (first | lia | omega)
  (repeat (first | with_reducible refine wpAny_truthy_bool ?_))
  simp only [Bool.false_eq_true, if_false]
  (repeat (first | (with_reducible refine wpAny_isTrue_Compare1 ?_ (by with_unfolding_all rfl)) | with_reducible refine isTrue_or ?_ | ((with_reducible show wpAny _ _ (eval (Expr.Name _ _) _) _ _ _); (first | (refine nameX_L (v := _) F (by (repeat (first | with_reducible assumption | with_reducible exact up_eq _ _ _ | refine (up_ne (by decide)).trans ?_ | exact rfl))) ?_ rfl rfl (by decide)) | (refine nameX_C (c := _) (o := _) (v := _) N rfl (by k_mem) (by assumption) ?_ rfl rfl (by decide)) | (refine r_glob G F (by k_is) ?_ rfl rfl (by decide)) | (refine r_boot G F (by boot_fast) (by k_is) (by decide) ?_ rfl rfl (by decide))))))
  refine r_ne_ll hpr hpb ?_ ?_
  · have := Rm.units
    show A.units + 3 + 64 < cLine
    (first | lia | omega)
  (repeat (first | with_reducible refine wpAny_truthy_bool ?_))
  simp only [Bool.false_eq_true, if_false]
  (repeat (first | with_reducible refine isTrue_or_nil ?_))
  simp only [Bool.false_eq_true, if_false]
  refine wpAny_execs_nil ?_
  refine wpAny_execs_cons ?_
  refine wpAny_Assign_Name ?_ (by with_unfolding_all rfl)
  (repeat (first | ((with_reducible show wpAny _ _ (eval (Expr.Name _ _) _) _ _ _); (first | (refine nameX_L (v := _) F (by (repeat (first | with_reducible assumption | with_reducible exact up_eq _ _ _ | refine (up_ne (by decide)).trans ?_ | exact rfl))) ?_ rfl rfl (by decide)) | (refine nameX_C (c := _) (o := _) (v := _) N rfl (by k_mem) (by assumption) ?_ rfl rfl (by decide)) | (refine r_glob G F (by k_is) ?_ rfl rfl (by decide)) | (refine r_boot G F (by boot_fast) (by k_is) (by decide) ?_ rfl rfl (by decide)))) | (with_reducible refine args_cons ?_ rfl) | (with_reducible refine args_nil ?_) | ((with_reducible show Keep _ _ ∧ _); refine And.intro F.keep ?_) | ((with_reducible show wpAny _ _ (callWith _ (Value.ref _) [] _ []) _ _ _); refine r_callf G (by k_is) ?_ rfl rfl) | (with_reducible refine Call_ ?_ rfl)))
  have hzh : @LE.le Nat _ s.heap.objs.size h.objs.size := Nat.le_trans hzL (Nat.le_of_lt F.ns.lt)
  refine has_model_ok (G.keeps F.keep) ((Rm.less (by decide)).deeper _) (B₀.keeps F.keep) (hd₀.keeps kS) (kS _ _ ht₀) hcs hn3 (fun s₁₁ r₁₁ eT => ?_)
  obtain ⟨psT, eT⟩ := eT
  have rw₁ := r₁₁.weak hzh
  have r : RelT s.heap.objs.size 166 s s₁₁ := (RelT.of (sS.set _ _) kS).trans rw₁
  rw [← hgg] at F
  replace F := fr_rel F rw₁
  rw [hgg] at F
  replace N := news_kt N r₁₁.kt (fun p hp => by
    rcases List.mem_cons.mp hp with q | q
    · rw [q]; exact ⟨_, dn⟩
    · rw [List.mem_singleton.mp q]; exact ⟨_, ds⟩)
  replace hcs := r₁₁.kt.ll hcs
  replace hpr := r₁₁.kt.ll hpr
  have nP : 166 ≠ L := Nat.ne_of_lt (Nat.lt_of_lt_of_le l₀ hzL)
  clear kS sS hcb hpb rw₁ r₁₁ hzh
  refine r_storeB F N (fun h tk F' N' mv => ?_) rfl rfl
  replace hcs := (turn_ns F.ns mv).ll hcs
  replace hpr := (turn_ns F.ns mv).ll hpr
  replace r := r.turn (tk := tk) hzL mv
  replace eT := mv _ _ nP eT
  replace F := F'
  replace N := N'
  clear F' N' mv
  (repeat (first | with_reducible refine wpAny_execs_cons ?_ | with_reducible refine wpAny_If ?_ | (with_reducible refine wpAny_isTrue_Compare1 ?_ (by with_unfolding_all rfl)) | ((with_reducible show wpAny _ _ (eval (Expr.Name _ _) _) _ _ _); (first | (refine nameX_L (v := _) F (by (repeat (first | with_reducible assumption | with_reducible exact up_eq _ _ _ | refine (up_ne (by decide)).trans ?_ | exact rfl))) ?_ rfl rfl (by decide)) | (refine nameX_C (c := _) (o := _) (v := _) N rfl (by k_mem) (by assumption) ?_ rfl rfl (by decide)) | (refine r_glob G F (by k_is) ?_ rfl rfl (by decide)) | (refine r_boot G F (by boot_fast) (by k_is) (by decide) ?_ rfl rfl (by decide)))) | (with_reducible refine args_cons ?_ rfl) | (with_reducible refine args_nil ?_) | ((with_reducible show Keep _ _ ∧ _); refine And.intro F.keep ?_) | ((with_reducible show wpAny _ _ (callWith _ (Value.ref _) [] _ []) _ _ _); refine r_callf G (by k_is) ?_ rfl rfl) | (with_reducible refine Call_ ?_ rfl)))
  refine truth_table_ok (G.keeps F.keep) ((Rm.less (by decide)).deeper _) hcs Sm.left (fun s₁₂ sm₁₂ kp₁₂ => ?_)
  replace F := F.keeps kp₁₂
  replace N := N.grown kp₁₂
  replace r := r.trans (RelT.of ((Same.of _ _ _).trans sm₁₂) kp₁₂)
  replace eT := kp₁₂ _ _ eT
  replace hcs := hcs.keep kp₁₂
  replace hpr := hpr.keep kp₁₂
  (repeat (first | ((with_reducible show wpAny _ _ (eval (Expr.Name _ _) _) _ _ _); (first | (refine nameX_L (v := _) F (by (repeat (first | with_reducible assumption | with_reducible exact up_eq _ _ _ | refine (up_ne (by decide)).trans ?_ | exact rfl))) ?_ rfl rfl (by decide)) | (refine nameX_C (c := _) (o := _) (v := _) N rfl (by k_mem) (by assumption) ?_ rfl rfl (by decide)) | (refine r_glob G F (by k_is) ?_ rfl rfl (by decide)) | (refine r_boot G F (by boot_fast) (by k_is) (by decide) ?_ rfl rfl (by decide))))))
  refine isnot_bool ?_
  rw [show (truthTable css n != hasModel css n) = false by rw [hasModel_eq W.vc, bne_self_eq_false]]
  (repeat (first | with_reducible refine wpAny_truthy_bool ?_))
  simp only [Bool.false_eq_true, if_false]
  refine wpAny_execs_nil ?_
  refine wpAny_execs_cons ?_
  refine wpAny_Assign_Name ?_ (by with_unfolding_all rfl)
  (repeat (first | ((with_reducible show wpAny _ _ (eval (Expr.Name _ _) _) _ _ _); (first | (refine nameX_L (v := _) F (by (repeat (first | with_reducible assumption | with_reducible exact up_eq _ _ _ | refine (up_ne (by decide)).trans ?_ | exact rfl))) ?_ rfl rfl (by decide)) | (refine nameX_C (c := _) (o := _) (v := _) N rfl (by k_mem) (by assumption) ?_ rfl rfl (by decide)) | (refine r_glob G F (by k_is) ?_ rfl rfl (by decide)) | (refine r_boot G F (by boot_fast) (by k_is) (by decide) ?_ rfl rfl (by decide)))) | (with_reducible refine args_cons ?_ rfl) | (with_reducible refine args_nil ?_) | ((with_reducible show Keep _ _ ∧ _); refine And.intro F.keep ?_) | ((with_reducible show wpAny _ _ (callWith _ (Value.ref _) [] _ []) _ _ _); refine r_callf G (by k_is) ?_ rfl rfl) | (with_reducible refine Call_ ?_ rfl)))
  refine checks_ok (G.keeps F.keep) ((Rm.less (by decide)).deeper _) hcs hpr Sm (fun s₁₃ sm₁₃ kp₁₃ => ?_)
  replace F := F.keeps kp₁₃
  replace N := N.grown kp₁₃
  replace r := r.trans (RelT.of ((Same.of _ _ _).trans sm₁₃) kp₁₃)
  replace eT := kp₁₃ _ _ eT
  refine r_storeB F N (fun h tk F' N' mv => ?_) rfl rfl
  replace r := r.turn (tk := tk) hzL mv
  replace eT := mv _ _ nP eT
  replace F := F'
  replace N := N'
  clear F' N' mv hcs hpr
  have f1 : hasModel css n = true → checksF css n pr = false := fun q => by
    cases hb : checksF css n pr with
    | false => rfl
    | true => exact absurd ((hasModel_iff W.vc).mp q) (checks_sound W.vc W.vp hb)
  generalize hasModel css n = mo at *
  generalize checksF css n pr = ac at *
  obtain ⟨m', F', hk', hmo, hma⟩ : ∃ m', Fr g L h m' ∧ m' "kind" = some (.int (kd : Nat) tkd) ∧ m' "model" = some (.bool mo) ∧ m' "accepted" = some (.bool ac) :=
    ⟨_, F, (up_ne (by decide)).trans ((up_ne (by decide)).trans ((up_ne (by decide)).trans ((up_ne (by decide)).trans ((up_ne (by decide)).trans hmk)))), (up_ne (by decide)).trans (up_eq _ _ _), up_eq _ _ _⟩
  replace F := F'
  clear F' hmk hmc hmp
  refine wpAny_execs_cons ?_
  refine wpAny_mono (Q := fun f s' => f = .next ∧ RelT s.heap.objs.size 166 s s' ∧ Fr g L s'.heap m' ∧ s'.heap.get? 166 = some (tabObj psT)) ?_ ?_ fun _ _ e => e
  · refine wpAny_If ?_
    refine isTrue_and ?_
    refine isTrue_plain ?_ (by with_unfolding_all rfl)
    refine nameX_L (v := _) F hmo ?_ rfl rfl (by decide)
    refine wpAny_truthy_bool ?_
    refine split_bool (fun hm => ?_) (fun hm => ?_)
    · (repeat (first | (with_reducible refine wpAny_isTrue_Compare1 ?_ (by with_unfolding_all rfl)) | with_reducible refine isTrue_and ?_ | with_reducible refine Constant_bool ?_ | ((with_reducible show wpAny _ _ (eval (Expr.Name _ _) _) _ _ _); (first | (refine nameX_L (v := _) F (by (repeat (first | with_reducible assumption | with_reducible exact up_eq _ _ _ | refine (up_ne (by decide)).trans ?_ | exact rfl))) ?_ rfl rfl (by decide)) | (refine nameX_C (c := _) (o := _) (v := _) N rfl (by k_mem) (by assumption) ?_ rfl rfl (by decide)) | (refine r_glob G F (by k_is) ?_ rfl rfl (by decide)) | (refine r_boot G F (by boot_fast) (by k_is) (by decide) ?_ rfl rfl (by decide))))))
      refine isnot_bool ?_
      rw [f1 hm, show (false != false) = false from rfl]
      refine wpAny_truthy_bool ?_
      exact wpAny_execs_nil ⟨rfl, r, F, eT⟩
    · exact wpAny_execs_nil ⟨rfl, r, F, eT⟩
  rintro f s₁₄ ⟨rfl, r', F', eT'⟩
  replace F := F'
  clear F' N r eT
  have N : News g L s₁₄.heap [] := News.nil
  show wpAny _ _ _ _ _ _
  refine wpAny_execs_cons ?_
  refine wpAny_mono (Q := fun f s' => f = .next ∧ RelT s.heap.objs.size 166 s s' ∧ s'.heap.get? 166 = some (tabObj psT)) ?_ ?_ fun _ _ e => e
  · refine wpAny_If ?_
    refine isTrue_and ?_
    (repeat (first | (with_reducible refine wpAny_isTrue_Compare1 ?_ (by with_unfolding_all rfl)) | with_reducible refine wpAny_Constant_int ?_ | with_reducible refine eq_int ?_ | with_reducible refine wpAny_truthy_bool ?_ | ((with_reducible show wpAny _ _ (eval (Expr.Name _ _) _) _ _ _); (first | (refine nameX_L (v := _) F (by (repeat (first | with_reducible assumption | with_reducible exact up_eq _ _ _ | refine (up_ne (by decide)).trans ?_ | exact rfl))) ?_ rfl rfl (by decide)) | (refine nameX_C (c := _) (o := _) (v := _) N rfl (by k_mem) (by assumption) ?_ rfl rfl (by decide)) | (refine r_glob G F (by k_is) ?_ rfl rfl (by decide)) | (refine r_boot G F (by boot_fast) (by k_is) (by decide) ?_ rfl rfl (by decide))))))
    refine split_bool (fun hc => ?_) (fun hc => ?_)
    · have hc' : kd = 3 := by
        have : ((kd : Nat) : Int) = 3 := by simpa using hc
        (first | lia | omega)
      (repeat (first | (with_reducible refine wpAny_isTrue_Compare1 ?_ (by with_unfolding_all rfl)) | with_reducible refine isTrue_and ?_ | with_reducible refine Constant_bool ?_ | ((with_reducible show wpAny _ _ (eval (Expr.Name _ _) _) _ _ _); (first | (refine nameX_L (v := _) F (by (repeat (first | with_reducible assumption | with_reducible exact up_eq _ _ _ | refine (up_ne (by decide)).trans ?_ | exact rfl))) ?_ rfl rfl (by decide)) | (refine nameX_C (c := _) (o := _) (v := _) N rfl (by k_mem) (by assumption) ?_ rfl rfl (by decide)) | (refine r_glob G F (by k_is) ?_ rfl rfl (by decide)) | (refine r_boot G F (by boot_fast) (by k_is) (by decide) ?_ rfl rfl (by decide))))))
      refine isnot_bool ?_
      rw [h3 hc', show (true != true) = false from rfl]
      refine wpAny_truthy_bool ?_
      exact wpAny_execs_nil ⟨rfl, ⟨r'.kt, r'.kz, r'.gens, r'.drawn, r'.os⟩, eT'⟩
    · exact wpAny_execs_nil ⟨rfl, ⟨r'.kt, r'.kz, r'.gens, r'.drawn, r'.os⟩, eT'⟩
  rintro f s₁₅ ⟨rfl, r, eT⟩
  show wpAny _ _ _ _ _ _
  refine wpAny_execs_cons ?_
  refine wpAny_Return_some ?_
  refine Constant_bool ?_
  exact ret _ r ⟨psT, eT⟩
end
end Mine

theorem Mine.oldK_of {s s' : Shared} {c P : Addr} {ps : Array Value} (hd : CodeHd s.heap c P) (e : s.heap.get? P = some (tabObj #[])) (r : Mine.RelT s.heap.objs.size P s s') (e' : s'.heap.get? P = some (tabObj ps)) : OldK s.heap s'.heap := by
  refine ⟨fun b o eb => ?_, fun b o eb => ?_⟩
  · by_cases hb : b = P
    · subst hb
      rw [e] at eb; cases eb
      exact .inr (.inl ⟨(hd.tab e).isCodeTable, rfl, #[], ps, rfl, by rw [Array.empty_append]; exact e'⟩)
    · exact .inl (r.kz b o (Heap.lt_size eb) hb eb)
  · by_cases hb : b = P
    · exact ⟨_, hb ▸ e'⟩
    · exact ⟨o, r.kz b o (Heap.lt_size eb) hb eb⟩
theorem Mine.t35 : PySem.Challenge.rw_k11_0035.Holds := Mine.hd (by
  k_fill
  intro w s₀ s₁ mg mb G Y fa o pm cd doc dV kV ho hd hcd hD hmg hg args vals as hpre hlay hrd hwl hlo
  have KX := kIn_of Y
  refine Ground.open G ?_
  intro T B D TE TW
  obtain ⟨bm, ob, M⟩ := bmod_of_top T
  wrow_args hpre hlay hrd hwl hlo
  all_goals (first | refine callC_kw (enter_call ?_) | refine enter_call ?_ | refine callC_kw (enter_callW ?_) | refine enter_callW ?_)
  rename_i ns a1 a2 a3 a4 a5 as1 as2 l vs as3 hL a6 a7 a8 hI a9 hlen a10
  have e174 := mg_of KX T.g (show nsIn (Mine.hd.heap_39 w.params) mainGlobals "law" = some (some (.ref 174)) by k_is)
  have hfa : fa = 174 := by
    rw [show mg _ = some (.ref 174) from e174] at hmg
    cases hmg; rfl
  subst hfa
  obtain ⟨hd₀, ht₀⟩ := tab_of (x := PySem.Str.ofString "_law_has_model") (c := 168) (P := 166) T KX rfl (by kernel_rfl)
  refine Mine.law_ok ⟨KX, topRead_of T⟩ ⟨rfl, by decide, by decide⟩ M hd₀ ht₀ hL hI (by (first | lia | omega)) (fun s' r eT => ?_)
  obtain ⟨ps, eT⟩ := eT
  refine ⟨.inl ⟨.bool true, .bool true, [], rfl, fun cls => rfl, .bool _, ?_, fun _ => ⟨.nil, nofun⟩⟩, ?_, r.os, ?_⟩
  · wrow_post
  · exact Mine.oldK_of hd₀ ht₀ r eT
  · intro y hy
    obtain ⟨k, hk, e⟩ := Array.getElem_of_mem hy
    refine r.gens.bare k y (by rw [hg]; exact Nat.zero_le _) ?_
    rw [← e]; exact Array.getElem?_eq_getElem hk)

theorem PySem.Challenge.cw_k11_0035_holds : PySem.Challenge.rw_k11_0035.Holds := by
  exact Mine.t35
