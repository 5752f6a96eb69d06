import PyProof.Rows.All
import HandS.ForMost
import HandS.Wide
import HandS.WideBits
import HandS.Style
import HandS.Walk
import HandS.Defaults
import HandS.IsInst
import HandS.Codes
import HandS.Flow
import HandS.TupAny
import HandS.Head0
import HandS.Head1
import HandS.Head2
import HandS.HeadEnd
import HandS.HeadHook1
import HandS.HeadHook2
import HandS.EndBits
import KE.GoesEnum
import KE.KRevSl
import PyProof.Rows.SeqMore
import Wide.All
import OpenK.AllK
import Wide.FinOn
import KE.KStateDown
import PySem.Challenge.RW_thirtybits_k33_whole_divisions_of_multip
set_option linter.all false
/-! digits: values of lists of digits -/
namespace Ar
/-- the value of a row of digits, the least first -/
def val (B : Int) : List Int → Int
  | [] => 0
  | d :: r => d + B * val B r
/-- digits of base B -/
def Dg (B : Int) (l : List Int) : Prop := ∀ d ∈ l, 0 ≤ d ∧ d < B
theorem Dg.nil {B : Int} : Dg B [] := fun _ h => nomatch h
theorem Dg.cons {B d : Int} {r : List Int} (h : 0 ≤ d ∧ d < B) (hr : Dg B r) : Dg B (d :: r) := fun x hx => by
  rcases List.mem_cons.mp hx with rfl | hx
  · exact h
  · exact hr x hx
theorem Dg.head {B d : Int} {r : List Int} (h : Dg B (d :: r)) : 0 ≤ d ∧ d < B := h d List.mem_cons_self
theorem Dg.tail {B d : Int} {r : List Int} (h : Dg B (d :: r)) : Dg B r := fun x hx => h x (List.mem_cons_of_mem _ hx)
theorem Dg.app {B : Int} {a b : List Int} (h : Dg B a) (h2 : Dg B b) : Dg B (a ++ b) := fun x hx => by
  rcases List.mem_append.mp hx with hx | hx
  · exact h x hx
  · exact h2 x hx
theorem Dg.snoc {B d : Int} {a : List Int} (h : Dg B a) (hd : 0 ≤ d ∧ d < B) : Dg B (a ++ [d]) := h.app (Dg.cons hd Dg.nil)
theorem Dg.take {B : Int} {a : List Int} (h : Dg B a) (n : Nat) : Dg B (a.take n) := fun x hx => h x (List.mem_of_mem_take hx)
theorem Dg.drop {B : Int} {a : List Int} (h : Dg B a) (n : Nat) : Dg B (a.drop n) := fun x hx => h x (List.mem_of_mem_drop hx)
theorem Dg.rev {B : Int} {a : List Int} (h : Dg B a) : Dg B a.reverse := fun x hx => h x (List.mem_reverse.mp hx)
theorem Dg.at {B d : Int} {a : List Int} {i : Nat} (h : Dg B a) (e : a[i]? = some d) : 0 ≤ d ∧ d < B := h d (List.mem_of_getElem? e)
theorem Dg.set {B d : Int} {a : List Int} {i : Nat} (h : Dg B a) (hd : 0 ≤ d ∧ d < B) : Dg B (a.set i d) := fun x hx => by
  rcases List.mem_or_eq_of_mem_set hx with q | rfl
  · exact h x q
  · exact hd
theorem Dg.rep {B : Int} (hB : 0 < B) (n : Nat) : Dg B (List.replicate n 0) := fun x hx => by
  rw [(List.mem_replicate.mp hx).2]; exact ⟨Int.le_refl _, hB⟩

theorem pw_pos {B : Int} (hB : 0 < B) (n : Nat) : 0 < B ^ n := Int.pow_pos hB
theorem pw_succ (B : Int) (n : Nat) : B ^ (n + 1) = B ^ n * B := Int.pow_succ B n
theorem val_app (B : Int) : ∀ a b : List Int, val B (a ++ b) = val B a + B ^ a.length * val B b
  | [], b => by simp [val]
  | d :: r, b => by
    show d + B * val B (r ++ b) = d + B * val B r + B ^ (r.length + 1) * val B b
    rw [val_app B r b, pw_succ, Int.mul_add, Int.add_assoc, Int.mul_comm (B ^ r.length) B, Int.mul_assoc]
theorem val_snoc (B : Int) (a : List Int) (d : Int) : val B (a ++ [d]) = val B a + d * B ^ a.length := by
  rw [val_app]
  show val B a + B ^ a.length * (d + B * 0) = _
  rw [Int.mul_zero, Int.add_zero, Int.mul_comm]
theorem val_nn {B : Int} (hB : 0 < B) : ∀ {a : List Int}, Dg B a → 0 ≤ val B a
  | [], _ => Int.le_refl _
  | d :: r, h => by
    have h1 := h.head
    have h2 := val_nn hB h.tail
    have h3 : 0 ≤ B * val B r := Int.mul_nonneg (Int.le_of_lt hB) h2
    show 0 ≤ d + B * val B r
    omega
theorem val_lt {B : Int} (hB : 0 < B) : ∀ {a : List Int}, Dg B a → val B a < B ^ a.length
  | [], _ => by simp [val]
  | d :: r, h => by
    have h1 := h.head
    have h2 := val_lt hB h.tail
    have h3 : B * (val B r + 1) ≤ B * B ^ r.length := Int.mul_le_mul_of_nonneg_left h2 (Int.le_of_lt hB)
    rw [Int.mul_add, Int.mul_one] at h3
    show d + B * val B r < B ^ (r.length + 1)
    rw [pw_succ, Int.mul_comm (B ^ r.length) B]
    omega
theorem val_split (B : Int) (a : List Int) (n : Nat) (h : n ≤ a.length) : val B a = val B (a.take n) + B ^ n * val B (a.drop n) := by
  have e := val_app B (a.take n) (a.drop n)
  rw [List.take_append_drop, List.length_take, Nat.min_eq_left h] at e
  exact e
/-- division by a power of the base drops digits -/
theorem val_div {B : Int} (hB : 0 < B) {a : List Int} (h : Dg B a) (n : Nat) (hn : n ≤ a.length) : val B a / B ^ n = val B (a.drop n) := by
  have e := val_split B a n hn
  have h1 := val_nn hB (h.take n)
  have h2 := val_lt hB (h.take n)
  rw [List.length_take, Nat.min_eq_left hn] at h2
  rw [e, Int.add_mul_ediv_left _ _ (Int.ne_of_gt (pw_pos hB n)), Int.ediv_eq_zero_of_lt h1 h2, Int.zero_add]
theorem val_take_succ {B : Int} {a : List Int} {n : Nat} {d : Int} (e : a[n]? = some d) : val B (a.take (n + 1)) = val B (a.take n) + d * B ^ n := by
  have hn : n < a.length := (List.getElem?_eq_some_iff.mp e).1
  rw [List.take_add_one, e]
  show val B (a.take n ++ [d]) = _
  rw [val_snoc, List.length_take, Nat.min_eq_left (Nat.le_of_lt hn)]
theorem val_drop_succ {B : Int} {a : List Int} {n : Nat} {d : Int} (e : a[n]? = some d) : val B (a.drop n) = d + B * val B (a.drop (n + 1)) := by
  have hn : n < a.length := (List.getElem?_eq_some_iff.mp e).1
  rw [List.drop_eq_getElem_cons hn]
  have e2 : a[n] = d := by
    have := List.getElem?_eq_getElem hn
    rw [this] at e
    exact Option.some.inj e
  rw [e2]
  rfl
theorem val_zero {B : Int} : ∀ n : Nat, val B (List.replicate n 0) = 0
  | 0 => rfl
  | n + 1 => by
    show 0 + B * val B (List.replicate n 0) = 0
    rw [val_zero n]
    simp

/-- a row in its normal form: digits without a 0 at the end, the value -/
structure Row (B : Int) (l : List Int) (n : Int) : Prop where
  dg : Dg B l
  vl : val B l = n
  tp : ∀ d, l[l.length - 1]? = some d → d ≠ 0
theorem Row.nn {B n : Int} {l : List Int} (hB : 0 < B) (h : Row B l n) : 0 ≤ n := h.vl ▸ val_nn hB h.dg
theorem Row.lt {B n : Int} {l : List Int} (hB : 0 < B) (h : Row B l n) : n < B ^ l.length := h.vl ▸ val_lt hB h.dg
/-- the top digit -/
theorem Row.top {B n : Int} {l : List Int} (hB : 0 < B) (h : Row B l n) {d : Int} (e : l[l.length - 1]? = some d) : n / B ^ (l.length - 1) = d ∧ 0 < d ∧ d < B := by
  have hl : l.length - 1 < l.length := (List.getElem?_eq_some_iff.mp e).1
  have h1 := h.dg.at e
  have h2 := h.tp d e
  have e1 := val_div hB h.dg (l.length - 1) (Nat.le_of_lt hl)
  have e2 := val_drop_succ (B := B) e
  rw [show l.length - 1 + 1 = l.length by omega, List.drop_length] at e2
  rw [h.vl] at e1
  refine ⟨?_, by omega, h1.2⟩
  rw [e1, e2]
  show d + B * 0 = d
  omega
theorem Row.zero {B : Int} {l : List Int} (hB : 0 < B) (h : Row B l 0) : l = [] := by
  cases q : l[l.length - 1]? with
  | none =>
    have := List.getElem?_eq_none_iff.mp q
    exact List.eq_nil_of_length_eq_zero (by omega)
  | some d =>
    have h1 := (h.top hB q).1
    have h2 := (h.top hB q).2.1
    rw [Int.zero_ediv] at h1
    omega
theorem Row.ge {B n : Int} {l : List Int} (hB : 0 < B) (h : Row B l n) (hl : l ≠ []) : B ^ (l.length - 1) ≤ n := by
  have hlen : l.length - 1 < l.length := by
    cases l with
    | nil => exact absurd rfl hl
    | cons a r => simp
  have q := List.getElem?_eq_getElem hlen
  have h1 := h.top hB q
  have hp := pw_pos hB (l.length - 1)
  have h3 : 1 ≤ n / B ^ (l.length - 1) := by omega
  have := (Int.le_ediv_iff_mul_le hp).mp h3
  omega
theorem Row.nil_iff {B n : Int} {l : List Int} (hB : 0 < B) (h : Row B l n) : l = [] ↔ n = 0 := by
  constructor
  · intro e
    subst e
    exact h.vl.symm
  · intro e
    subst e
    exact h.zero hB
theorem Row.pos {B n : Int} {l : List Int} (hB : 0 < B) (h : Row B l n) (hn : n ≠ 0) : 0 < l.length := by
  have : l ≠ [] := fun e => hn ((h.nil_iff hB).mp e)
  exact List.length_pos_iff.mpr this
/-- the length is fixed by the value -/
theorem Row.len_of {B n : Int} {l : List Int} (hB : 1 < B) (h : Row B l n) {k : Nat} (h1 : B ^ k ≤ n) (h2 : n < B ^ (k + 1)) : l.length = k + 1 := by
  have hB0 : 0 < B := by omega
  have hp := pw_pos hB0 k
  have hl : l ≠ [] := fun e => by
    have := (h.nil_iff hB0).mp e
    omega
  have hpos := List.length_pos_iff.mpr hl
  have a := h.lt hB0
  have b := h.ge hB0 hl
  have mono : ∀ i j : Nat, i ≤ j → B ^ i ≤ B ^ j := fun i j hij => by
    induction hij with
    | refl => exact Int.le_refl _
    | step _ ih =>
      rename_i m _
      have := pw_pos hB0 m
      rw [Nat.succ_eq_add_one, pw_succ]
      have h5 : B ^ m * 1 ≤ B ^ m * B := Int.mul_le_mul_of_nonneg_left (by omega) (Int.le_of_lt this)
      omega
  apply Nat.le_antisymm
  · apply Nat.le_of_not_lt
    intro hlt
    have := mono (k + 1) (l.length - 1) (by omega)
    omega
  · apply Nat.le_of_not_lt
    intro hlt
    have := mono l.length k (by omega)
    omega
theorem Row.uniq {B n : Int} (hB : 1 < B) : ∀ {l l' : List Int}, Row B l n → Row B l' n → l = l'
  | l, l', h, h' => by
    have hB0 : 0 < B := by omega
    have key : ∀ (l l' : List Int), Dg B l → Dg B l' → l.length = l'.length → val B l = val B l' → l = l' := by
      intro l
      induction l with
      | nil => intro l' _ _ hl _; exact (List.eq_nil_of_length_eq_zero hl.symm).symm
      | cons d r ih =>
        intro l' h1 h2 hl hv
        cases l' with
        | nil => cases hl
        | cons d' r' =>
          have hv' : d + B * val B r = d' + B * val B r' := hv
          have a := h1.head
          have b := h2.head
          have e1 : (d + B * val B r) % B = d := by rw [Int.add_mul_emod_self_left]; exact Int.emod_eq_of_lt a.1 a.2
          have e2 : (d' + B * val B r') % B = d' := by rw [Int.add_mul_emod_self_left]; exact Int.emod_eq_of_lt b.1 b.2
          have ed : d = d' := by rw [← e1, ← e2, hv']
          have er : B * val B r = B * val B r' := by omega
          have er2 := Int.eq_of_mul_eq_mul_left (Int.ne_of_gt hB0) er
          rw [ed, ih r' h1.tail h2.tail (by simpa using hl) er2]
    by_cases hn : n = 0
    · subst hn
      rw [h.zero hB0, h'.zero hB0]
    · have hl : l ≠ [] := fun e => hn ((h.nil_iff hB0).mp e)
      have hp := List.length_pos_iff.mpr hl
      have e := h'.len_of hB (k := l.length - 1) (h.ge hB0 hl) (by rw [show l.length - 1 + 1 = l.length by omega]; exact h.lt hB0)
      exact key l l' h.dg h'.dg (by omega) (h.vl.trans h'.vl.symm)
/-- zeros at the end left out -/
theorem Row.strip {B : Int} {l : List Int} (h : Dg B l) {s : Nat} (hs : s ≤ l.length) (hz : ∀ i, s ≤ i → i < l.length → l[i]? = some 0) (ht : ∀ d, 0 < s → l[s - 1]? = some d → d ≠ 0) : Row B (l.take s) (val B l) := by
  refine ⟨h.take s, ?_, fun d e => ?_⟩
  · have hd : l.drop s = List.replicate (l.length - s) 0 := by
      apply List.ext_getElem?
      intro i
      rw [List.getElem?_drop, List.getElem?_replicate]
      by_cases hi : i < l.length - s
      · rw [if_pos hi]
        exact hz (s + i) (by omega) (by omega)
      · rw [if_neg hi]
        exact List.getElem?_eq_none_iff.mpr (by omega)
    rw [val_split B l s hs, hd, val_zero]
    omega
  · rw [List.length_take, Nat.min_eq_left hs] at e
    by_cases h0 : s = 0
    · subst h0
      simp at e
    · rw [List.getElem?_take_of_lt (by omega)] at e
      exact ht d (by omega) e
/-- zeros ahead: times a power of the base -/
theorem Row.shift {B n : Int} {l : List Int} (hB : 0 < B) (h : Row B l n) (hn : n ≠ 0) (t : Nat) : Row B (List.replicate t 0 ++ l) (n * B ^ t) := by
  refine ⟨(Dg.rep hB t).app h.dg, ?_, fun d e => ?_⟩
  · rw [val_app, val_zero, List.length_replicate, h.vl, Int.zero_add, Int.mul_comm]
  · have hp := h.pos hB hn
    rw [List.length_append, List.length_replicate, List.getElem?_append_right (by rw [List.length_replicate]; omega), List.length_replicate] at e
    exact h.tp d (by rw [← e]; congr 1; omega)
end Ar
set_option linter.all false
/-! long division, in plain arithmetic -/
namespace Ar
/-- one step's tuple -/
structure Stp where
  guess : Int
  corr : Int
  rest : Bool
  dig : Int
  deriving DecidableEq
/-- the step at place j: R what is left, b the divisor of n digits -/
def stepAt (B : Int) (n : Nat) (b : Int) (j : Nat) (R : Int) : Stp :=
  let g := R / B ^ (j + n - 1) / (b / B ^ (n - 1))
  let h := R / B ^ (j + n - 2) / (b / B ^ (n - 2))
  let q := R / (b * B ^ j)
  ⟨g, g - h, decide (q < h), q⟩
/-- the steps, from the last digit down -/
def stepsOf (B : Int) (n : Nat) (b : Int) : Nat → Int → List Stp
  | 0, _ => []
  | j + 1, R => stepAt B n b j R :: stepsOf B n b j (R % (b * B ^ j))
theorem stepsOf_len {B : Int} {n : Nat} {b : Int} : ∀ (k : Nat) (R : Int), (stepsOf B n b k R).length = k
  | 0, _ => rfl
  | j + 1, R => by
    show (stepsOf B n b j _).length + 1 = j + 1
    rw [stepsOf_len j]
theorem pw_add (B : Int) (m n : Nat) : B ^ (m + n) = B ^ m * B ^ n := Int.pow_add B m n
theorem div_pw_pw {B : Int} (hB : 0 < B) (R : Int) (m n : Nat) : R / B ^ m / B ^ n = R / B ^ (m + n) := by
  rw [Int.ediv_ediv_of_nonneg (Int.le_of_lt (pw_pos hB m)), pw_add]
theorem mul_div_pw {B : Int} (hB : 0 < B) (R : Int) (m t : Nat) : R * B ^ t / B ^ (m + t) = R / B ^ m := by
  rw [pw_add]
  exact Int.mul_ediv_mul_of_pos_left R (B ^ m) (pw_pos hB t)
/-- a common factor changes no step -/
theorem stepAt_scale {B : Int} (hB : 0 < B) {n : Nat} (hn : 2 ≤ n) (b : Int) (j t : Nat) (R : Int) : stepAt B (n + t) (b * B ^ t) j (R * B ^ t) = stepAt B n b j R := by
  have e1 : R * B ^ t / B ^ (j + (n + t) - 1) = R / B ^ (j + n - 1) := by
    rw [show j + (n + t) - 1 = (j + n - 1) + t by omega]; exact mul_div_pw hB R _ t
  have e2 : R * B ^ t / B ^ (j + (n + t) - 2) = R / B ^ (j + n - 2) := by
    rw [show j + (n + t) - 2 = (j + n - 2) + t by omega]; exact mul_div_pw hB R _ t
  have e3 : b * B ^ t / B ^ (n + t - 1) = b / B ^ (n - 1) := by
    rw [show n + t - 1 = (n - 1) + t by omega]; exact mul_div_pw hB b _ t
  have e4 : b * B ^ t / B ^ (n + t - 2) = b / B ^ (n - 2) := by
    rw [show n + t - 2 = (n - 2) + t by omega]; exact mul_div_pw hB b _ t
  have e5 : R * B ^ t / (b * B ^ t * B ^ j) = R / (b * B ^ j) := by
    rw [Int.mul_right_comm]; exact Int.mul_ediv_mul_of_pos_left R _ (pw_pos hB t)
  unfold stepAt
  simp only [e1, e2, e3, e4, e5]
theorem stepsOf_scale {B : Int} (hB : 0 < B) {n : Nat} (hn : 2 ≤ n) (b : Int) (t : Nat) : ∀ (k : Nat) (R : Int), stepsOf B (n + t) (b * B ^ t) k (R * B ^ t) = stepsOf B n b k R
  | 0, _ => rfl
  | j + 1, R => by
    show stepAt B (n + t) (b * B ^ t) j (R * B ^ t) :: stepsOf B (n + t) (b * B ^ t) j _ = stepAt B n b j R :: stepsOf B n b j _
    have e : R * B ^ t % (b * B ^ t * B ^ j) = R % (b * B ^ j) * B ^ t := by
      rw [Int.mul_right_comm, Int.mul_comm R, Int.mul_comm (b * B ^ j) (B ^ t), Int.mul_emod_mul_of_pos _ _ (pw_pos hB t), Int.mul_comm]
    rw [stepAt_scale hB hn, e, stepsOf_scale hB hn b t j]
/-- the value of the quotient's digits -/
theorem stepsOf_val {B : Int} (hB : 0 < B) {n : Nat} {b : Int} (hb : 0 < b) : ∀ (k : Nat) (R : Int), 0 ≤ R → R < b * B ^ k →
    val B ((stepsOf B n b k R).reverse.map (·.dig)) = R / b ∧ Dg B ((stepsOf B n b k R).map (·.dig))
  | 0, R, h0, h1 => by
    refine ⟨?_, Dg.nil⟩
    show (0 : Int) = R / b
    rw [Int.pow_zero, Int.mul_one] at h1
    exact (Int.ediv_eq_zero_of_lt h0 h1).symm
  | j + 1, R, h0, h1 => by
    have hp := pw_pos hB j
    have hbp : 0 < b * B ^ j := Int.mul_pos hb hp
    have m0 := Int.emod_nonneg R (Int.ne_of_gt hbp)
    have m1 := Int.emod_lt_of_pos R hbp
    obtain ⟨v1, v2⟩ := stepsOf_val hB (n := n) hb j (R % (b * B ^ j)) m0 m1
    have q0 : 0 ≤ R / (b * B ^ j) := Int.ediv_nonneg h0 (Int.le_of_lt hbp)
    have q1 : R / (b * B ^ j) < B := Int.ediv_lt_of_lt_mul hbp (by rw [Int.mul_comm]; rw [pw_succ, ← Int.mul_assoc] at h1; exact h1)
    refine ⟨?_, Dg.cons ⟨q0, q1⟩ v2⟩
    show val B (((stepAt B n b j R) :: stepsOf B n b j (R % (b * B ^ j))).reverse.map (·.dig)) = R / b
    rw [List.reverse_cons, List.map_append]
    show val B ((stepsOf B n b j (R % (b * B ^ j))).reverse.map (·.dig) ++ [R / (b * B ^ j)]) = R / b
    rw [val_snoc, v1, List.length_map, List.length_reverse, stepsOf_len]
    have e : R = R % (b * B ^ j) + R / (b * B ^ j) * B ^ j * b := by
      have := Int.emod_add_mul_ediv R (b * B ^ j)
      rw [Int.mul_assoc, Int.mul_comm (B ^ j) b, Int.mul_comm (R / (b * B ^ j))]
      exact this.symm
    calc R % (b * B ^ j) / b + R / (b * B ^ j) * B ^ j = (R % (b * B ^ j) + R / (b * B ^ j) * B ^ j * b) / b := (Int.add_mul_ediv_right _ _ (Int.ne_of_gt hb)).symm
      _ = R / b := by rw [← e]
/-- what is left at the end -/
def lastOf (B : Int) (b : Int) : Nat → Int → Int
  | 0, R => R
  | j + 1, R => lastOf B b j (R % (b * B ^ j))
theorem lastOf_eq {B : Int} (hB : 0 < B) {b : Int} (hb : 0 < b) : ∀ (k : Nat) (R : Int), 0 ≤ R → R < b * B ^ k → lastOf B b k R = R % b
  | 0, R, h0, h1 => by
    rw [Int.pow_zero, Int.mul_one] at h1
    exact (Int.emod_eq_of_lt h0 h1).symm
  | j + 1, R, h0, h1 => by
    have hp := pw_pos hB j
    have hbp : 0 < b * B ^ j := Int.mul_pos hb hp
    have m0 := Int.emod_nonneg R (Int.ne_of_gt hbp)
    have m1 := Int.emod_lt_of_pos R hbp
    show lastOf B b j (R % (b * B ^ j)) = _
    rw [lastOf_eq hB hb j _ m0 m1, Int.emod_emod_of_dvd R (Int.dvd_mul_right b (B ^ j))]
/-- R behind the first i steps (of k) -/
theorem step_next {B : Int} {n : Nat} {b : Int} : ∀ (k : Nat) (R : Int) (i : Nat), i < k → ∃ R', lastOf B b k R = lastOf B b (k - i) R' ∧ (stepsOf B n b k R)[i]? = some (stepAt B n b (k - i - 1) R')
  | 0, _, _, h => absurd h (by omega)
  | j + 1, R, 0, _ => ⟨R, rfl, rfl⟩
  | j + 1, R, i + 1, h => by
    obtain ⟨R', h1, h2⟩ := step_next (n := n) j (R % (b * B ^ j)) i (by omega)
    exact ⟨R', by rw [show j + 1 - (i + 1) = j - i by omega]; exact h1, by rw [show j + 1 - (i + 1) - 1 = j - i - 1 by omega]; exact h2⟩
/-- the divisor's top bit is set; n digits, 2 at least -/
structure Nrm (B : Int) (n : Nat) (b : Int) : Prop where
  n2 : 2 ≤ n
  hi : b < B ^ n
  lo : B ≤ 2 * (b / B ^ (n - 1))
theorem ediv_mul_le' {a c : Int} (hc : 0 < c) : a / c * c ≤ a := Int.ediv_mul_le a (Int.ne_of_gt hc)
theorem lt_ediv_mul {a c : Int} (hc : 0 < c) : a < (a / c + 1) * c := Int.lt_ediv_add_one_mul_self a hc
/-- the guess: what the loop of corrections starts from, where it ends; how far it is from the digit -/
theorem guess_ok {B : Int} (hB : 256 ≤ B) {n : Nat} {b : Int} (N : Nrm B n b) {j : Nat} {R : Int} (h0 : 0 ≤ R) (h1 : R < b * B ^ (j + 1)) :
    let u2 := R / B ^ (j + n - 1); let u3 := R / B ^ (j + n - 2); let v1 := b / B ^ (n - 1); let v2 := b / B ^ (n - 2); let q := R / (b * B ^ j)
    0 < v1 ∧ v1 < B ∧ 0 < v2 ∧ 0 ≤ q ∧ q < B ∧ q ≤ u3 / v2 ∧ u3 / v2 ≤ q + 1 ∧ u3 / v2 ≤ u2 / v1 ∧ u2 / v1 ≤ B + 1 := by
  intro u2 u3 v1 v2 q
  have hB0 : 0 < B := by omega
  obtain ⟨hn, hi, lo⟩ := N
  have lo : B ≤ 2 * v1 := lo
  have p1 := pw_pos hB0 (n - 1)
  have p2 := pw_pos hB0 (n - 2)
  have pj := pw_pos hB0 j
  have v1pos : 0 < v1 := by omega
  have en : B ^ n = B * B ^ (n - 1) := by
    have := pw_succ B (n - 1)
    rw [show n - 1 + 1 = n by omega, Int.mul_comm] at this
    exact this
  have en1 : B ^ (n - 1) = B * B ^ (n - 2) := by
    rw [show n - 1 = (n - 2) + 1 by omega, pw_succ, Int.mul_comm]
  have hbpos : 0 < b := by
    have h2 : v1 * B ^ (n - 1) ≤ b := ediv_mul_le' p1
    have h3 : 0 < v1 * B ^ (n - 1) := Int.mul_pos v1pos p1
    omega
  have v1lt : v1 < B := Int.ediv_lt_of_lt_mul p1 (by rw [← en]; exact hi)
  have e12 : v1 = v2 / B := by
    show b / B ^ (n - 1) = b / B ^ (n - 2) / B
    rw [Int.ediv_ediv_of_nonneg (Int.le_of_lt p2), en1, Int.mul_comm]
  have v2ge : v1 * B ≤ v2 := by rw [e12]; exact ediv_mul_le' hB0
  have v2big : B * B ≤ 2 * v2 := by
    have : B * B ≤ 2 * v1 * B := Int.mul_le_mul_of_nonneg_right lo (Int.le_of_lt hB0)
    rw [Int.mul_assoc] at this
    omega
  have hBB : 256 * B ≤ B * B := Int.mul_le_mul_of_nonneg_right hB (Int.le_of_lt hB0)
  have v2pos : 0 < v2 := by omega
  have hbp : 0 < b * B ^ j := Int.mul_pos hbpos pj
  have q0 : 0 ≤ q := Int.ediv_nonneg h0 (Int.le_of_lt hbp)
  have q1 : q < B := Int.ediv_lt_of_lt_mul hbp (by rw [Int.mul_comm]; rw [pw_succ, ← Int.mul_assoc] at h1; exact h1)
  have ejn : B ^ (j + n - 2) = B ^ j * B ^ (n - 2) := by rw [show j + n - 2 = j + (n - 2) by omega, pw_add]
  have ejn1 : B ^ (j + n - 1) = B ^ j * B ^ (n - 1) := by rw [show j + n - 1 = j + (n - 1) by omega, pw_add]
  have pjn2 := pw_pos hB0 (j + n - 2)
  have pjn1 := pw_pos hB0 (j + n - 1)
  have u23 : u2 = u3 / B := by
    show R / B ^ (j + n - 1) = R / B ^ (j + n - 2) / B
    rw [Int.ediv_ediv_of_nonneg (Int.le_of_lt pjn2), show j + n - 1 = (j + n - 2) + 1 by omega, pw_succ]
  have u3nn : 0 ≤ u3 := Int.ediv_nonneg h0 (Int.le_of_lt pjn2)
  -- q ≤ u3 / v2
  have c1 : q ≤ u3 / v2 := by
    rw [Int.le_ediv_iff_mul_le v2pos]
    show q * v2 ≤ R / B ^ (j + n - 2)
    rw [Int.le_ediv_iff_mul_le pjn2, ejn]
    have a1 : v2 * B ^ (n - 2) ≤ b := ediv_mul_le' p2
    have a2 : q * (b * B ^ j) ≤ R := ediv_mul_le' hbp
    have a3 : v2 * B ^ (n - 2) * B ^ j ≤ b * B ^ j := Int.mul_le_mul_of_nonneg_right a1 (Int.le_of_lt pj)
    have a4 : q * (v2 * B ^ (n - 2) * B ^ j) ≤ q * (b * B ^ j) := Int.mul_le_mul_of_nonneg_left a3 q0
    have a5 : q * v2 * (B ^ j * B ^ (n - 2)) = q * (v2 * B ^ (n - 2) * B ^ j) := by
      rw [Int.mul_assoc, Int.mul_assoc v2, Int.mul_comm (B ^ j)]
    omega
  -- u3 / v2 ≤ u2 / v1
  have c3 : u3 / v2 ≤ u2 / v1 := by
    rw [Int.le_ediv_iff_mul_le v1pos]
    rw [u23, Int.le_ediv_iff_mul_le hB0, Int.mul_assoc]
    have a1 : u3 / v2 * v2 ≤ u3 := ediv_mul_le' v2pos
    have a2 : u3 / v2 * (v1 * B) ≤ u3 / v2 * v2 := Int.mul_le_mul_of_nonneg_left v2ge (Int.ediv_nonneg u3nn (Int.le_of_lt v2pos))
    omega
  -- u2 / v1 ≤ B + 1
  have c4 : u2 / v1 ≤ B + 1 := by
    apply Int.le_of_lt_add_one
    apply Int.ediv_lt_of_lt_mul v1pos
    have a1 : b < (v1 + 1) * B ^ (n - 1) := lt_ediv_mul p1
    have a2 : u2 * B ^ (j + n - 1) ≤ R := ediv_mul_le' pjn1
    have a3 : u2 * B ^ (j + n - 1) < b * B ^ (j + 1) := Int.lt_of_le_of_lt a2 h1
    have a4 : b * B ^ (j + 1) ≤ (v1 + 1) * B ^ (n - 1) * B ^ (j + 1) := Int.mul_le_mul_of_nonneg_right (Int.le_of_lt a1) (Int.le_of_lt (pw_pos hB0 _))
    have a5 : (v1 + 1) * B ^ (n - 1) * B ^ (j + 1) = (v1 + 1) * B * B ^ (j + n - 1) := by
      rw [ejn1, pw_succ]
      ac_rfl
    have a6 : u2 * B ^ (j + n - 1) < (v1 + 1) * B * B ^ (j + n - 1) := by omega
    have a7 : u2 < (v1 + 1) * B := Int.lt_of_mul_lt_mul_right a6 (Int.le_of_lt pjn1)
    have a8 : (v1 + 1) * B = v1 * B + B := by rw [Int.add_mul, Int.one_mul]
    have a9 : (B + 1 + 1) * v1 = v1 * B + 2 * v1 := by rw [Int.add_assoc, Int.add_mul, Int.mul_comm B v1]; rfl
    omega
  -- u3 / v2 ≤ q + 1
  have c2 : u3 / v2 ≤ q + 1 := by
    apply Int.le_of_not_gt
    intro hgt
    let h := u3 / v2
    have hgt : q + 1 < h := hgt
    have hle : h ≤ B + 1 := Int.le_trans c3 c4
    have a1 : h * v2 ≤ u3 := ediv_mul_le' v2pos
    have a2 : u3 * B ^ (j + n - 2) ≤ R := ediv_mul_le' pjn2
    have a3 : R < (q + 1) * (b * B ^ j) := lt_ediv_mul hbp
    have a4 : (q + 1) * (b * B ^ j) ≤ (h - 1) * (b * B ^ j) := Int.mul_le_mul_of_nonneg_right (by omega) (Int.le_of_lt hbp)
    have a5 : b < (v2 + 1) * B ^ (n - 2) := lt_ediv_mul p2
    have a6 : b * B ^ j ≤ (v2 + 1) * B ^ (n - 2) * B ^ j := Int.mul_le_mul_of_nonneg_right (Int.le_of_lt a5) (Int.le_of_lt pj)
    have a7 : (h - 1) * (b * B ^ j) ≤ (h - 1) * ((v2 + 1) * B ^ (n - 2) * B ^ j) := Int.mul_le_mul_of_nonneg_left a6 (by omega)
    have a8 : h * v2 * B ^ (j + n - 2) ≤ u3 * B ^ (j + n - 2) := Int.mul_le_mul_of_nonneg_right a1 (Int.le_of_lt pjn2)
    have a9 : (h - 1) * ((v2 + 1) * B ^ (n - 2) * B ^ j) = (h - 1) * (v2 + 1) * B ^ (j + n - 2) := by
      rw [ejn]
      ac_rfl
    have a10 : h * v2 * B ^ (j + n - 2) < (h - 1) * (v2 + 1) * B ^ (j + n - 2) := by omega
    have a11 : h * v2 < (h - 1) * (v2 + 1) := Int.lt_of_mul_lt_mul_right a10 (Int.le_of_lt pjn2)
    have a12 : (h - 1) * (v2 + 1) = h * v2 + h - v2 - 1 := by
      rw [Int.sub_mul, Int.mul_add, Int.mul_one, Int.one_mul]
      omega
    omega
  exact ⟨v1pos, v1lt, v2pos, q0, q1, c1, c2, c3, c4⟩
/-- the test of a correction: g times the second digit is above what is left -/
theorem corr_test {B v1 v0 u2 u0 g : Int} : (v0 * g > (u2 - g * v1) * B + u0) ↔ (u2 * B + u0 < g * (v1 * B + v0)) := by
  have e1 : (u2 - g * v1) * B = u2 * B - g * v1 * B := Int.sub_mul ..
  have e2 : g * (v1 * B + v0) = g * v1 * B + v0 * g := by rw [Int.mul_add, Int.mul_assoc, Int.mul_comm v0]
  rw [e1, e2]
  omega
/-- a rest that is no digit ends it -/
theorem corr_end {B v0 g r u0 : Int} (hv : 0 ≤ v0 ∧ v0 < B) (hg : g ≤ B + 1) (hg0 : 0 ≤ g) (hr : B ≤ r) (hu : 0 ≤ u0) (hB : 0 < B) : ¬ (v0 * g > r * B + u0) := by
  intro h
  have a1 : v0 * g ≤ (B - 1) * g := Int.mul_le_mul_of_nonneg_right (by omega) hg0
  have a2 : (B - 1) * g ≤ (B - 1) * (B + 1) := Int.mul_le_mul_of_nonneg_left hg (by omega)
  have a3 : (B - 1) * (B + 1) = B * B - 1 := by
    rw [Int.sub_mul, Int.mul_add, Int.mul_one, Int.one_mul]
    omega
  have a4 : B * B ≤ r * B := Int.mul_le_mul_of_nonneg_right hr (Int.le_of_lt hB)
  omega
end Ar
set_option Elab.async false
set_option linter.all false
set_option maxRecDepth 100000
/-! the text by places: each def's statement, its names by slot -/
namespace Tb
open PySem PySem.Spec PyProof.Rows L2
def top (i : Nat) : Stmt := PySem.Challenge.pw_thirtybits_k33_whole_divisions_of_multip.main.body.getD i (.Pass ⟨0, 0, 0, 0⟩)
abbrev sIsInteger : Stmt := top 7
abbrev nIsInteger : List Str := ["value"]
abbrev pIsInteger : List Str := ["value"]
theorem scIsInteger : FnScope nIsInteger pIsInteger (defScope sIsInteger) := ⟨rfl, rfl, rfl, by decide +kernel, rfl, by decide +kernel, by decide +kernel⟩
abbrev sIsBetween : Stmt := top 8
abbrev nIsBetween : List Str := ["value", "low", "high"]
abbrev pIsBetween : List Str := ["value", "low", "high"]
theorem scIsBetween : FnScope nIsBetween pIsBetween (defScope sIsBetween) := ⟨rfl, rfl, rfl, by decide +kernel, rfl, by decide +kernel, by decide +kernel⟩
abbrev sCheckInteger : Stmt := top 9
abbrev nCheckInteger : List Str := ["argument", "value"]
abbrev pCheckInteger : List Str := ["argument", "value"]
theorem scCheckInteger : FnScope nCheckInteger pCheckInteger (defScope sCheckInteger) := ⟨rfl, rfl, rfl, by decide +kernel, rfl, by decide +kernel, by decide +kernel⟩
abbrev sMInit : Stmt := inClass (top 17) 0
abbrev nMInit : List Str := ["self", "bits", "cutoff", "word"]
abbrev pMInit : List Str := ["self", "bits", "cutoff"]
theorem scMInit : FnScope nMInit pMInit (defScope sMInit) := ⟨rfl, rfl, rfl, by decide +kernel, rfl, by decide +kernel, by decide +kernel⟩
abbrev sMParts : Stmt := inClass (top 17) 2
abbrev nMParts : List Str := ["self"]
abbrev pMParts : List Str := ["self"]
theorem scMParts : FnScope nMParts pMParts (defScope sMParts) := ⟨rfl, rfl, rfl, by decide +kernel, rfl, by decide +kernel, by decide +kernel⟩
abbrev sMCount : Stmt := inClass (top 17) 6
abbrev nMCount : List Str := ["self", "word", "number"]
abbrev pMCount : List Str := ["self", "word", "number"]
theorem scMCount : FnScope nMCount pMCount (defScope sMCount) := ⟨rfl, rfl, rfl, by decide +kernel, rfl, by decide +kernel, by decide +kernel⟩
abbrev sMEnter : Stmt := inClass (top 17) 7
abbrev nMEnter : List Str := ["self", "word", "m", "n"]
abbrev pMEnter : List Str := ["self", "word", "m", "n"]
theorem scMEnter : FnScope nMEnter pMEnter (defScope sMEnter) := ⟨rfl, rfl, rfl, by decide +kernel, rfl, by decide +kernel, by decide +kernel⟩
abbrev sCheckMachine : Stmt := top 18
abbrev nCheckMachine : List Str := ["value"]
abbrev pCheckMachine : List Str := ["value"]
theorem scCheckMachine : FnScope nCheckMachine pCheckMachine (defScope sCheckMachine) := ⟨rfl, rfl, rfl, by decide +kernel, rfl, by decide +kernel, by decide +kernel⟩
abbrev sBInit : Stmt := inClass (top 20) 0
abbrev nBInit : List Str := ["self", "width", "side", "row"]
abbrev pBInit : List Str := ["self", "width", "side", "row"]
theorem scBInit : FnScope nBInit pBInit (defScope sBInit) := ⟨rfl, rfl, rfl, by decide +kernel, rfl, by decide +kernel, by decide +kernel⟩
abbrev sMade : Stmt := top 21
abbrev nMade : List Str := ["machine", "side", "digits", "size"]
abbrev pMade : List Str := ["machine", "side", "digits"]
theorem scMade : FnScope nMade pMade (defScope sMade) := ⟨rfl, rfl, rfl, by decide +kernel, rfl, by decide +kernel, by decide +kernel⟩
abbrev sDigitsOf : Stmt := top 22
abbrev nDigitsOf : List Str := ["machine", "n", "found"]
abbrev pDigitsOf : List Str := ["machine", "n"]
theorem scDigitsOf : FnScope nDigitsOf pDigitsOf (defScope sDigitsOf) := ⟨rfl, rfl, rfl, by decide +kernel, rfl, by decide +kernel, by decide +kernel⟩
abbrev sBigOf : Stmt := top 23
abbrev nBigOf : List Str := ["machine", "n"]
abbrev pBigOf : List Str := ["machine", "n"]
theorem scBigOf : FnScope nBigOf pBigOf (defScope sBigOf) := ⟨rfl, rfl, rfl, by decide +kernel, rfl, by decide +kernel, by decide +kernel⟩
abbrev sValueOf : Stmt := top 24
abbrev nValueOf : List Str := ["x", "found", "digit"]
abbrev pValueOf : List Str := ["x"]
theorem scValueOf : FnScope nValueOf pValueOf (defScope sValueOf) := ⟨rfl, rfl, rfl, by decide +kernel, rfl, by decide +kernel, by decide +kernel⟩
abbrev sCheckBig : Stmt := top 25
abbrev nCheckBig : List Str := ["machine", "argument", "value"]
abbrev pCheckBig : List Str := ["machine", "argument", "value"]
theorem scCheckBig : FnScope nCheckBig pCheckBig (defScope sCheckBig) := ⟨rfl, rfl, rfl, by decide +kernel, rfl, by decide +kernel, by decide +kernel⟩
abbrev sCheckBigs : Stmt := top 26
abbrev nCheckBigs : List Str := ["machine", "x", "y"]
abbrev pCheckBigs : List Str := ["machine", "x", "y"]
theorem scCheckBigs : FnScope nCheckBigs pCheckBigs (defScope sCheckBigs) := ⟨rfl, rfl, rfl, by decide +kernel, rfl, by decide +kernel, by decide +kernel⟩
abbrev sCheckAny : Stmt := top 27
abbrev nCheckAny : List Str := ["value"]
abbrev pCheckAny : List Str := ["value"]
theorem scCheckAny : FnScope nCheckAny pCheckAny (defScope sCheckAny) := ⟨rfl, rfl, rfl, by decide +kernel, rfl, by decide +kernel, by decide +kernel⟩
abbrev sIsCompact : Stmt := top 28
abbrev nIsCompact : List Str := ["x"]
abbrev pIsCompact : List Str := ["x"]
theorem scIsCompact : FnScope nIsCompact pIsCompact (defScope sIsCompact) := ⟨rfl, rfl, rfl, by decide +kernel, rfl, by decide +kernel, by decide +kernel⟩
abbrev sBig : Stmt := top 29
abbrev nBig : List Str := ["machine", "n"]
abbrev pBig : List Str := ["machine", "n"]
theorem scBig : FnScope nBig pBig (defScope sBig) := ⟨rfl, rfl, rfl, by decide +kernel, rfl, by decide +kernel, by decide +kernel⟩
abbrev sPlain : Stmt := top 30
abbrev nPlain : List Str := ["x"]
abbrev pPlain : List Str := ["x"]
theorem scPlain : FnScope nPlain pPlain (defScope sPlain) := ⟨rfl, rfl, rfl, by decide +kernel, rfl, by decide +kernel, by decide +kernel⟩
abbrev sLookedDown : Stmt := top 31
abbrev nLookedDown : List Str := ["machine", "one", "other", "place"]
abbrev pLookedDown : List Str := ["machine", "one", "other"]
theorem scLookedDown : FnScope nLookedDown pLookedDown (defScope sLookedDown) := ⟨rfl, rfl, rfl, by decide +kernel, rfl, by decide +kernel, by decide +kernel⟩
abbrev sLifted : Stmt := top 33
abbrev nLifted : List Str := ["machine", "digits", "count", "found", "rest", "digit"]
abbrev pLifted : List Str := ["machine", "digits", "count"]
theorem scLifted : FnScope nLifted pLifted (defScope sLifted) := ⟨rfl, rfl, rfl, by decide +kernel, rfl, by decide +kernel, by decide +kernel⟩
abbrev sLowered : Stmt := top 34
abbrev nLowered : List Str := ["machine", "digits", "count", "found", "rest", "digit"]
abbrev pLowered : List Str := ["machine", "digits", "count"]
theorem scLowered : FnScope nLowered pLowered (defScope sLowered) := ⟨rfl, rfl, rfl, by decide +kernel, rfl, by decide +kernel, by decide +kernel⟩
abbrev sAdding : Stmt := top 36
abbrev nAdding : List Str := ["machine", "a", "b", "found", "carry", "place", "digit"]
abbrev pAdding : List Str := ["machine", "a", "b"]
theorem scAdding : FnScope nAdding pAdding (defScope sAdding) := ⟨rfl, rfl, rfl, by decide +kernel, rfl, by decide +kernel, by decide +kernel⟩
abbrev sTaking : Stmt := top 37
abbrev nTaking : List Str := ["machine", "a", "b", "side", "place", "found", "borrow", "digit"]
abbrev pTaking : List Str := ["machine", "a", "b"]
theorem scTaking : FnScope nTaking pTaking (defScope sTaking) := ⟨rfl, rfl, rfl, by decide +kernel, rfl, by decide +kernel, by decide +kernel⟩
abbrev sAdded : Stmt := top 38
abbrev nAdded : List Str := ["machine", "x", "y", "one", "other", "side", "found"]
abbrev pAdded : List Str := ["machine", "x", "y"]
theorem scAdded : FnScope nAdded pAdded (defScope sAdded) := ⟨rfl, rfl, rfl, by decide +kernel, rfl, by decide +kernel, by decide +kernel⟩
abbrev sSubtracted : Stmt := top 39
abbrev nSubtracted : List Str := ["machine", "x", "y", "one", "other", "side", "found"]
abbrev pSubtracted : List Str := ["machine", "x", "y"]
theorem scSubtracted : FnScope nSubtracted pSubtracted (defScope sSubtracted) := ⟨rfl, rfl, rfl, by decide +kernel, rfl, by decide +kernel, by decide +kernel⟩
abbrev sShortDivided : Stmt := top 41
abbrev nShortDivided : List Str := ["machine", "a", "digit", "found", "rest", "place"]
abbrev pShortDivided : List Str := ["machine", "a", "digit"]
theorem scShortDivided : FnScope nShortDivided pShortDivided (defScope sShortDivided) := ⟨rfl, rfl, rfl, by decide +kernel, rfl, by decide +kernel, by decide +kernel⟩
abbrev sShortRest : Stmt := top 42
abbrev nShortRest : List Str := ["machine", "a", "digit", "rest", "one"]
abbrev pShortRest : List Str := ["machine", "a", "digit"]
theorem scShortRest : FnScope nShortRest pShortRest (defScope sShortRest) := ⟨rfl, rfl, rfl, by decide +kernel, rfl, by decide +kernel, by decide +kernel⟩
abbrev sGuessed : Stmt := top 43
abbrev nGuessed : List Str := ["machine", "room", "start", "b", "size", "guess", "rest", "corrected"]
abbrev pGuessed : List Str := ["machine", "room", "start", "b"]
theorem scGuessed : FnScope nGuessed pGuessed (defScope sGuessed) := ⟨rfl, rfl, rfl, by decide +kernel, rfl, by decide +kernel, by decide +kernel⟩
abbrev sTakeProduct : Stmt := top 44
abbrev nTakeProduct : List Str := ["machine", "room", "start", "b", "digit", "carry", "place", "one"]
abbrev pTakeProduct : List Str := ["machine", "room", "start", "b", "digit"]
theorem scTakeProduct : FnScope nTakeProduct pTakeProduct (defScope sTakeProduct) := ⟨rfl, rfl, rfl, by decide +kernel, rfl, by decide +kernel, by decide +kernel⟩
abbrev sPutBack : Stmt := top 45
abbrev nPutBack : List Str := ["machine", "room", "start", "b", "carry", "place", "one"]
abbrev pPutBack : List Str := ["machine", "room", "start", "b"]
theorem scPutBack : FnScope nPutBack pPutBack (defScope sPutBack) := ⟨rfl, rfl, rfl, by decide +kernel, rfl, by decide +kernel, by decide +kernel⟩
abbrev sQuotientDigit : Stmt := top 46
abbrev nQuotientDigit : List Str := ["machine", "room", "start", "b", "guess", "corrected", "digit", "is_less"]
abbrev pQuotientDigit : List Str := ["machine", "room", "start", "b"]
theorem scQuotientDigit : FnScope nQuotientDigit pQuotientDigit (defScope sQuotientDigit) := ⟨rfl, rfl, rfl, by decide +kernel, rfl, by decide +kernel, by decide +kernel⟩
abbrev sLongSteps : Stmt := top 47
abbrev nLongSteps : List Str := ["machine", "a", "b", "count", "room", "carry", "steps", "start"]
abbrev pLongSteps : List Str := ["machine", "a", "b"]
theorem scLongSteps : FnScope nLongSteps pLongSteps (defScope sLongSteps) := ⟨rfl, rfl, rfl, by decide +kernel, rfl, by decide +kernel, by decide +kernel⟩
abbrev sLongDivided : Stmt := top 48
abbrev nLongDivided : List Str := ["machine", "a", "b", "steps", "rest", "step"]
abbrev pLongDivided : List Str := ["machine", "a", "b"]
theorem scLongDivided : FnScope nLongDivided pLongDivided (defScope sLongDivided) := ⟨rfl, rfl, rfl, by decide +kernel, rfl, by decide +kernel, by decide +kernel⟩
abbrev sIsBelow : Stmt := top 49
abbrev nIsBelow : List Str := ["a", "b"]
abbrev pIsBelow : List Str := ["a", "b"]
theorem scIsBelow : FnScope nIsBelow pIsBelow (defScope sIsBelow) := ⟨rfl, rfl, rfl, by decide +kernel, rfl, by decide +kernel, by decide +kernel⟩
abbrev sCutOff : Stmt := top 50
abbrev nCutOff : List Str := ["machine", "x", "y", "found", "last", "rest"]
abbrev pCutOff : List Str := ["machine", "x", "y"]
theorem scCutOff : FnScope nCutOff pCutOff (defScope sCutOff) := ⟨rfl, rfl, rfl, by decide +kernel, rfl, by decide +kernel, by decide +kernel⟩
abbrev sAreDigits : Stmt := top 51
abbrev nAreDigits : List Str := ["x", "y"]
abbrev pAreDigits : List Str := ["x", "y"]
theorem scAreDigits : FnScope nAreDigits pAreDigits (defScope sAreDigits) := ⟨rfl, rfl, rfl, by decide +kernel, rfl, by decide +kernel, by decide +kernel⟩
abbrev sFloored : Stmt := top 52
abbrev nFloored : List Str := ["machine", "x", "y", "found", "rest"]
abbrev pFloored : List Str := ["machine", "x", "y"]
theorem scFloored : FnScope nFloored pFloored (defScope sFloored) := ⟨rfl, rfl, rfl, by decide +kernel, rfl, by decide +kernel, by decide +kernel⟩
abbrev sFloorOf : Stmt := top 53
abbrev nFloorOf : List Str := ["machine", "x", "y"]
abbrev pFloorOf : List Str := ["machine", "x", "y"]
theorem scFloorOf : FnScope nFloorOf pFloorOf (defScope sFloorOf) := ⟨rfl, rfl, rfl, by decide +kernel, rfl, by decide +kernel, by decide +kernel⟩
abbrev sRestOf : Stmt := top 54
abbrev nRestOf : List Str := ["machine", "x", "y"]
abbrev pRestOf : List Str := ["machine", "x", "y"]
theorem scRestOf : FnScope nRestOf pRestOf (defScope sRestOf) := ⟨rfl, rfl, rfl, by decide +kernel, rfl, by decide +kernel, by decide +kernel⟩
abbrev sModded : Stmt := top 55
abbrev nModded : List Str := ["machine", "x", "y", "rest"]
abbrev pModded : List Str := ["machine", "x", "y"]
theorem scModded : FnScope nModded pModded (defScope sModded) := ⟨rfl, rfl, rfl, by decide +kernel, rfl, by decide +kernel, by decide +kernel⟩
abbrev sTruncated : Stmt := top 56
abbrev nTruncated : List Str := ["machine", "x", "y"]
abbrev pTruncated : List Str := ["machine", "x", "y"]
theorem scTruncated : FnScope nTruncated pTruncated (defScope sTruncated) := ⟨rfl, rfl, rfl, by decide +kernel, rfl, by decide +kernel, by decide +kernel⟩
abbrev sDivideBoth : Stmt := top 57
abbrev nDivideBoth : List Str := ["machine", "x", "y"]
abbrev pDivideBoth : List Str := ["machine", "x", "y"]
theorem scDivideBoth : FnScope nDivideBoth pDivideBoth (defScope sDivideBoth) := ⟨rfl, rfl, rfl, by decide +kernel, rfl, by decide +kernel, by decide +kernel⟩
abbrev sFloorDivide : Stmt := top 58
abbrev nFloorDivide : List Str := ["machine", "x", "y"]
abbrev pFloorDivide : List Str := ["machine", "x", "y"]
theorem scFloorDivide : FnScope nFloorDivide pFloorDivide (defScope sFloorDivide) := ⟨rfl, rfl, rfl, by decide +kernel, rfl, by decide +kernel, by decide +kernel⟩
abbrev sModulo : Stmt := top 59
abbrev nModulo : List Str := ["machine", "x", "y"]
abbrev pModulo : List Str := ["machine", "x", "y"]
theorem scModulo : FnScope nModulo pModulo (defScope sModulo) := ⟨rfl, rfl, rfl, by decide +kernel, rfl, by decide +kernel, by decide +kernel⟩
abbrev sCheckLong : Stmt := top 60
abbrev nCheckLong : List Str := ["machine", "x", "y"]
abbrev pCheckLong : List Str := ["machine", "x", "y"]
theorem scCheckLong : FnScope nCheckLong pCheckLong (defScope sCheckLong) := ⟨rfl, rfl, rfl, by decide +kernel, rfl, by decide +kernel, by decide +kernel⟩
abbrev sLongWalk : Stmt := top 61
abbrev nLongWalk : List Str := ["machine", "x", "y"]
abbrev pLongWalk : List Str := ["machine", "x", "y"]
theorem scLongWalk : FnScope nLongWalk pLongWalk (defScope sLongWalk) := ⟨rfl, rfl, rfl, by decide +kernel, rfl, by decide +kernel, by decide +kernel⟩
abbrev sLSource : Stmt := top 63
abbrev nLSource : List Str := ["_law_cell"]
abbrev pLSource : List Str := ["_law_cell"]
theorem scLSource : FnScope nLSource pLSource (defScope sLSource) := ⟨rfl, rfl, rfl, by decide +kernel, rfl, by decide +kernel, by decide +kernel⟩
abbrev sLDraw : Stmt := top 64
abbrev nLDraw : List Str := ["_law_source_here", "_law_size", "_law_digit", "_law_mixed"]
abbrev pLDraw : List Str := ["_law_source_here", "_law_size"]
theorem scLDraw : FnScope nLDraw pLDraw (defScope sLDraw) := ⟨rfl, rfl, rfl, by decide +kernel, rfl, by decide +kernel, by decide +kernel⟩
abbrev sLPick : Stmt := top 65
abbrev nLPick : List Str := ["_law_source_here", "_law_items"]
abbrev pLPick : List Str := ["_law_source_here", "_law_items"]
theorem scLPick : FnScope nLPick pLPick (defScope sLPick) := ⟨rfl, rfl, rfl, by decide +kernel, rfl, by decide +kernel, by decide +kernel⟩
abbrev sLRow : Stmt := top 66
abbrev nLRow : List Str := ["_law_number_here", "_law_wide", "_law_found"]
abbrev pLRow : List Str := ["_law_number_here", "_law_wide"]
theorem scLRow : FnScope nLRow pLRow (defScope sLRow) := ⟨rfl, rfl, rfl, by decide +kernel, rfl, by decide +kernel, by decide +kernel⟩
abbrev sLNumber : Stmt := top 67
abbrev nLNumber : List Str := ["_law_source_here", "_law_wide", "_law_most", "_law_found", "_law_size", "_law_way", "_law_ends", "_law_turn_so", "_law_digit"]
abbrev pLNumber : List Str := ["_law_source_here", "_law_wide", "_law_most"]
theorem scLNumber : FnScope nLNumber pLNumber (defScope sLNumber) := ⟨rfl, rfl, rfl, by decide +kernel, rfl, by decide +kernel, by decide +kernel⟩
abbrev sLBox : Stmt := top 68
abbrev nLBox : List Str := ["_law_source_here"]
abbrev pLBox : List Str := ["_law_source_here"]
theorem scLBox : FnScope nLBox pLBox (defScope sLBox) := ⟨rfl, rfl, rfl, by decide +kernel, rfl, by decide +kernel, by decide +kernel⟩
abbrev sLSigned : Stmt := top 69
abbrev nLSigned : List Str := ["_law_source_here", "_law_number_here"]
abbrev pLSigned : List Str := ["_law_source_here", "_law_number_here"]
theorem scLSigned : FnScope nLSigned pLSigned (defScope sLSigned) := ⟨rfl, rfl, rfl, by decide +kernel, rfl, by decide +kernel, by decide +kernel⟩
abbrev sLIsBelow : Stmt := top 70
abbrev nLIsBelow : List Str := ["_law_size", "_law_other", "_law_wide", "_law_row_here", "_law_more"]
abbrev pLIsBelow : List Str := ["_law_size", "_law_other", "_law_wide"]
theorem scLIsBelow : FnScope nLIsBelow pLIsBelow (defScope sLIsBelow) := ⟨rfl, rfl, rfl, by decide +kernel, rfl, by decide +kernel, by decide +kernel⟩
abbrev sLPair : Stmt := top 71
abbrev nLPair : List Str := ["_law_source_here", "_law_wide", "_law_other", "_law_turn_so", "_law_way", "_law_one"]
abbrev pLPair : List Str := ["_law_source_here", "_law_wide"]
theorem scLPair : FnScope nLPair pLPair (defScope sLPair) := ⟨rfl, rfl, rfl, by decide +kernel, rfl, by decide +kernel, by decide +kernel⟩
abbrev sLValues : Stmt := top 72
abbrev nLValues : List Str := ["_law_pair_here"]
abbrev pLValues : List Str := ["_law_pair_here"]
theorem scLValues : FnScope nLValues pLValues (defScope sLValues) := ⟨rfl, rfl, rfl, by decide +kernel, rfl, by decide +kernel, by decide +kernel⟩
abbrev sLRight : Stmt := top 73
abbrev nLRight : List Str := ["_law_box_here", "_law_one", "_law_other", "_law_first", "_law_second", "_law_near_so", "_law_rest", "_law_low", "_law_mod_so", "_law_is_off", "_law_turned"]
abbrev pLRight : List Str := ["_law_box_here", "_law_one", "_law_other"]
theorem scLRight : FnScope nLRight pLRight (defScope sLRight) := ⟨rfl, rfl, rfl, by decide +kernel, rfl, by decide +kernel, by decide +kernel⟩
abbrev sLWalksRight : Stmt := top 74
abbrev nLWalksRight : List Str := ["_law_source_here", "_law_box_here", "_law_one", "_law_other", "_law_wide", "_law_steps", "_law_by", "_law_more"]
abbrev pLWalksRight : List Str := ["_law_source_here", "_law_box_here", "_law_one", "_law_other"]
theorem scLWalksRight : FnScope nLWalksRight pLWalksRight (defScope sLWalksRight) := ⟨rfl, rfl, rfl, by decide +kernel, rfl, by decide +kernel, by decide +kernel⟩
abbrev sLaw : Stmt := top 75
abbrev nLaw : List Str := ["_law_script", "_law_cell", "_law_source_here", "_law_box_here", "_law_go", "_law_one", "_law_other"]
abbrev pLaw : List Str := ["_law_script"]
theorem scLaw : FnScope nLaw pLaw (defScope sLaw) := ⟨rfl, rfl, rfl, by decide +kernel, rfl, by decide +kernel, by decide +kernel⟩
end Tb
set_option Elab.async false
set_option linter.all false
set_option maxRecDepth 100000
set_option maxHeartbeats 0
/-! the head: what the top has written, by one run in the kernel -/
namespace Tb
open PySem PySem.Spec PyProof.Rows L2
def dIsInteger : He.DefD := ⟨("is_integer", none), "is_integer", "is_integer", defArgs sIsInteger, defBody sIsInteger, defScope sIsInteger, [], []⟩
def dIsBetween : He.DefD := ⟨("is_between", none), "is_between", "is_between", defArgs sIsBetween, defBody sIsBetween, defScope sIsBetween, [], []⟩
def dCheckInteger : He.DefD := ⟨("check_integer", none), "check_integer", "check_integer", defArgs sCheckInteger, defBody sCheckInteger, defScope sCheckInteger, [], []⟩
def dMInit : He.DefD := ⟨("Machine", some "__init__"), "__init__", "Machine.__init__", defArgs sMInit, defBody sMInit, defScope sMInit, [.int 30, .int 70], []⟩
def dMParts : He.DefD := ⟨("Machine", some "parts"), "parts", "Machine.parts", defArgs sMParts, defBody sMParts, defScope sMParts, [], []⟩
def dMCount : He.DefD := ⟨("Machine", some "count"), "count", "Machine.count", defArgs sMCount, defBody sMCount, defScope sMCount, [], []⟩
def dMEnter : He.DefD := ⟨("Machine", some "enter"), "enter", "Machine.enter", defArgs sMEnter, defBody sMEnter, defScope sMEnter, [], []⟩
def dCheckMachine : He.DefD := ⟨("check_machine", none), "check_machine", "check_machine", defArgs sCheckMachine, defBody sCheckMachine, defScope sCheckMachine, [], []⟩
def dBInit : He.DefD := ⟨("Big", some "__init__"), "__init__", "Big.__init__", defArgs sBInit, defBody sBInit, defScope sBInit, [], []⟩
def dMade : He.DefD := ⟨("made", none), "made", "made", defArgs sMade, defBody sMade, defScope sMade, [], []⟩
def dDigitsOf : He.DefD := ⟨("digits_of", none), "digits_of", "digits_of", defArgs sDigitsOf, defBody sDigitsOf, defScope sDigitsOf, [], []⟩
def dBigOf : He.DefD := ⟨("big_of", none), "big_of", "big_of", defArgs sBigOf, defBody sBigOf, defScope sBigOf, [], []⟩
def dValueOf : He.DefD := ⟨("value_of", none), "value_of", "value_of", defArgs sValueOf, defBody sValueOf, defScope sValueOf, [], []⟩
def dCheckBig : He.DefD := ⟨("check_big", none), "check_big", "check_big", defArgs sCheckBig, defBody sCheckBig, defScope sCheckBig, [], []⟩
def dCheckBigs : He.DefD := ⟨("check_bigs", none), "check_bigs", "check_bigs", defArgs sCheckBigs, defBody sCheckBigs, defScope sCheckBigs, [], []⟩
def dCheckAny : He.DefD := ⟨("check_any", none), "check_any", "check_any", defArgs sCheckAny, defBody sCheckAny, defScope sCheckAny, [], []⟩
def dIsCompact : He.DefD := ⟨("is_compact", none), "is_compact", "is_compact", defArgs sIsCompact, defBody sIsCompact, defScope sIsCompact, [], []⟩
def dBig : He.DefD := ⟨("big", none), "big", "big", defArgs sBig, defBody sBig, defScope sBig, [], []⟩
def dPlain : He.DefD := ⟨("plain", none), "plain", "plain", defArgs sPlain, defBody sPlain, defScope sPlain, [], []⟩
def dLookedDown : He.DefD := ⟨("looked_down", none), "looked_down", "looked_down", defArgs sLookedDown, defBody sLookedDown, defScope sLookedDown, [], []⟩
def dLifted : He.DefD := ⟨("lifted", none), "lifted", "lifted", defArgs sLifted, defBody sLifted, defScope sLifted, [], []⟩
def dLowered : He.DefD := ⟨("lowered", none), "lowered", "lowered", defArgs sLowered, defBody sLowered, defScope sLowered, [], []⟩
def dAdding : He.DefD := ⟨("adding", none), "adding", "adding", defArgs sAdding, defBody sAdding, defScope sAdding, [], []⟩
def dTaking : He.DefD := ⟨("taking", none), "taking", "taking", defArgs sTaking, defBody sTaking, defScope sTaking, [], []⟩
def dAdded : He.DefD := ⟨("added", none), "added", "added", defArgs sAdded, defBody sAdded, defScope sAdded, [], []⟩
def dSubtracted : He.DefD := ⟨("subtracted", none), "subtracted", "subtracted", defArgs sSubtracted, defBody sSubtracted, defScope sSubtracted, [], []⟩
def dShortDivided : He.DefD := ⟨("short_divided", none), "short_divided", "short_divided", defArgs sShortDivided, defBody sShortDivided, defScope sShortDivided, [], []⟩
def dShortRest : He.DefD := ⟨("short_rest", none), "short_rest", "short_rest", defArgs sShortRest, defBody sShortRest, defScope sShortRest, [], []⟩
def dGuessed : He.DefD := ⟨("guessed", none), "guessed", "guessed", defArgs sGuessed, defBody sGuessed, defScope sGuessed, [], []⟩
def dTakeProduct : He.DefD := ⟨("take_product", none), "take_product", "take_product", defArgs sTakeProduct, defBody sTakeProduct, defScope sTakeProduct, [], []⟩
def dPutBack : He.DefD := ⟨("put_back", none), "put_back", "put_back", defArgs sPutBack, defBody sPutBack, defScope sPutBack, [], []⟩
def dQuotientDigit : He.DefD := ⟨("quotient_digit", none), "quotient_digit", "quotient_digit", defArgs sQuotientDigit, defBody sQuotientDigit, defScope sQuotientDigit, [], []⟩
def dLongSteps : He.DefD := ⟨("long_steps", none), "long_steps", "long_steps", defArgs sLongSteps, defBody sLongSteps, defScope sLongSteps, [], []⟩
def dLongDivided : He.DefD := ⟨("long_divided", none), "long_divided", "long_divided", defArgs sLongDivided, defBody sLongDivided, defScope sLongDivided, [], []⟩
def dIsBelow : He.DefD := ⟨("is_below", none), "is_below", "is_below", defArgs sIsBelow, defBody sIsBelow, defScope sIsBelow, [], []⟩
def dCutOff : He.DefD := ⟨("cut_off", none), "cut_off", "cut_off", defArgs sCutOff, defBody sCutOff, defScope sCutOff, [], []⟩
def dAreDigits : He.DefD := ⟨("are_digits", none), "are_digits", "are_digits", defArgs sAreDigits, defBody sAreDigits, defScope sAreDigits, [], []⟩
def dFloored : He.DefD := ⟨("floored", none), "floored", "floored", defArgs sFloored, defBody sFloored, defScope sFloored, [], []⟩
def dFloorOf : He.DefD := ⟨("floor_of", none), "floor_of", "floor_of", defArgs sFloorOf, defBody sFloorOf, defScope sFloorOf, [], []⟩
def dRestOf : He.DefD := ⟨("rest_of", none), "rest_of", "rest_of", defArgs sRestOf, defBody sRestOf, defScope sRestOf, [], []⟩
def dModded : He.DefD := ⟨("modded", none), "modded", "modded", defArgs sModded, defBody sModded, defScope sModded, [], []⟩
def dTruncated : He.DefD := ⟨("truncated", none), "truncated", "truncated", defArgs sTruncated, defBody sTruncated, defScope sTruncated, [], []⟩
def dDivideBoth : He.DefD := ⟨("divide_both", none), "divide_both", "divide_both", defArgs sDivideBoth, defBody sDivideBoth, defScope sDivideBoth, [], []⟩
def dFloorDivide : He.DefD := ⟨("floor_divide", none), "floor_divide", "floor_divide", defArgs sFloorDivide, defBody sFloorDivide, defScope sFloorDivide, [], []⟩
def dModulo : He.DefD := ⟨("modulo", none), "modulo", "modulo", defArgs sModulo, defBody sModulo, defScope sModulo, [], []⟩
def dCheckLong : He.DefD := ⟨("check_long", none), "check_long", "check_long", defArgs sCheckLong, defBody sCheckLong, defScope sCheckLong, [], []⟩
def dLongWalk : He.DefD := ⟨("long_walk", none), "long_walk", "long_walk", defArgs sLongWalk, defBody sLongWalk, defScope sLongWalk, [], []⟩
def dLSource : He.DefD := ⟨("_law_source", none), "_law_source", "_law_source", defArgs sLSource, defBody sLSource, defScope sLSource, [], []⟩
def dLDraw : He.DefD := ⟨("_law_draw", none), "_law_draw", "_law_draw", defArgs sLDraw, defBody sLDraw, defScope sLDraw, [], []⟩
def dLPick : He.DefD := ⟨("_law_pick", none), "_law_pick", "_law_pick", defArgs sLPick, defBody sLPick, defScope sLPick, [], []⟩
def dLRow : He.DefD := ⟨("_law_row", none), "_law_row", "_law_row", defArgs sLRow, defBody sLRow, defScope sLRow, [], []⟩
def dLNumber : He.DefD := ⟨("_law_number", none), "_law_number", "_law_number", defArgs sLNumber, defBody sLNumber, defScope sLNumber, [], []⟩
def dLBox : He.DefD := ⟨("_law_box", none), "_law_box", "_law_box", defArgs sLBox, defBody sLBox, defScope sLBox, [], []⟩
def dLSigned : He.DefD := ⟨("_law_signed", none), "_law_signed", "_law_signed", defArgs sLSigned, defBody sLSigned, defScope sLSigned, [], []⟩
def dLIsBelow : He.DefD := ⟨("_law_is_below", none), "_law_is_below", "_law_is_below", defArgs sLIsBelow, defBody sLIsBelow, defScope sLIsBelow, [], []⟩
def dLPair : He.DefD := ⟨("_law_pair", none), "_law_pair", "_law_pair", defArgs sLPair, defBody sLPair, defScope sLPair, [], []⟩
def dLValues : He.DefD := ⟨("_law_values", none), "_law_values", "_law_values", defArgs sLValues, defBody sLValues, defScope sLValues, [], []⟩
def dLRight : He.DefD := ⟨("_law_right", none), "_law_right", "_law_right", defArgs sLRight, defBody sLRight, defScope sLRight, [], []⟩
def dLWalksRight : He.DefD := ⟨("_law_walks_right", none), "_law_walks_right", "_law_walks_right", defArgs sLWalksRight, defBody sLWalksRight, defScope sLWalksRight, [], []⟩
def dLaw : He.DefD := ⟨("law", none), "law", "law", defArgs sLaw, defBody sLaw, defScope sLaw, [], []⟩
def fn : List He.DefD := [dIsInteger, dIsBetween, dCheckInteger, dMInit, dMParts, dMCount, dMEnter, dCheckMachine, dBInit, dMade, dDigitsOf, dBigOf, dValueOf, dCheckBig, dCheckBigs, dCheckAny, dIsCompact, dBig, dPlain, dLookedDown, dLifted, dLowered, dAdding, dTaking, dAdded, dSubtracted, dShortDivided, dShortRest, dGuessed, dTakeProduct, dPutBack, dQuotientDigit, dLongSteps, dLongDivided, dIsBelow, dCutOff, dAreDigits, dFloored, dFloorOf, dRestOf, dModded, dTruncated, dDivideBoth, dFloorDivide, dModulo, dCheckLong, dLongWalk, dLSource, dLDraw, dLPick, dLRow, dLNumber, dLBox, dLSigned, dLIsBelow, dLPair, dLValues, dLRight, dLWalksRight, dLaw]
def fa : List He.Fa := [.glo "is_integer", .glo "is_between", .glo "check_integer", .glo "check_machine", .glo "made", .glo "digits_of", .glo "big_of", .glo "value_of", .glo "check_big", .glo "check_bigs", .glo "check_any", .glo "is_compact", .glo "big", .glo "plain", .glo "looked_down", .glo "lifted", .glo "lowered", .glo "adding", .glo "taking", .glo "added", .glo "subtracted", .glo "short_divided", .glo "short_rest", .glo "guessed", .glo "take_product", .glo "put_back", .glo "quotient_digit", .glo "long_steps", .glo "long_divided", .glo "is_below", .glo "cut_off", .glo "are_digits", .glo "floored", .glo "floor_of", .glo "rest_of", .glo "modded", .glo "truncated", .glo "divide_both", .glo "floor_divide", .glo "modulo", .glo "check_long", .glo "long_walk", .glo "_law_source", .glo "_law_draw", .glo "_law_pick", .glo "_law_row", .glo "_law_number", .glo "_law_box", .glo "_law_signed", .glo "_law_is_below", .glo "_law_pair", .glo "_law_values", .glo "_law_right", .glo "_law_walks_right", .glo "law", .glo "Machine", .glo "Big", .glo "WORDS", .int "LEAST_BITS" 8, .int "MOST_BITS" 30, .int "MOST_CUTOFF" 1000, .int "MOST_WALK" 1000, .free "isinstance", .free "int", .free "bool", .free "len", .free "range", .free "divmod", .free "abs", .free "max", .free "enumerate", .free "tuple", .free "dict", .cls "Machine", .cls "Big", .mkr "Machine", .mkr "Big", .noat "Machine" "width", .noat "Machine" "limit_of_rows", .noat "Machine" "base", .noat "Machine" "counts", .noat "Machine" "entered", .noat "Big" "width", .noat "Big" "side", .noat "Big" "row", .meth "Machine" "count", .meth "Machine" "enter", .meth "Machine" "parts"]
/-- isinstance of an own class -/
def insB (K : PySem.W.Frag) (x : Str) : Bool := He.eqO (PySem.W.findIn K (.ref (He.ga K x)) "__class__") (some (some (.builtin "object.__class__"))) && (He.eqO (PySem.W.specialIn K (.builtin "object.__class__") "__get__") (some (some (.builtin "getset_descriptor.__get__"))) &&
  (decide (PySem.W.takesIn K (.builtin "object.__class__") = some true) && (decide (PySem.W.mroIn K (He.ga K x) (.type "object") = some true) && decide (PySem.W.kitOne K (.ref (He.ga K x)) (.ref (He.ga K x)) = some true))))
theorem insB_ok {K : PySem.W.Frag} {x : Str} (cl : Cls K (He.ga K x)) (h : insB K x = true) : C8.InsC K (He.ga K x) := by
  obtain ⟨h1, h⟩ := He.ba h
  obtain ⟨h2, h⟩ := He.ba h
  obtain ⟨h3, h⟩ := He.ba h
  obtain ⟨h4, h5⟩ := He.ba h
  exact ⟨cl, He.eqO_ok h1, He.eqO_ok h2, of_decide_eq_true h3, of_decide_eq_true h4, of_decide_eq_true h5⟩
def words : List He.Dv := [.str "short", .str "sum", .str "product", .str "quotient", .str "corrected", .str "restored", .str "shifted", .str "combined", .str "complemented", .str "looked"]
def exB (K : PySem.W.Frag) : Bool := insB K "Machine" && (insB K "Big" && He.tupB K "WORDS" words)
abbrev AlZ : Type := He.AlD × Bool
def obsZ (K : PySem.W.Frag) : AlZ := (He.obsD fa fn K, exB K)
def valZ : AlZ := (He.valD fn, true)
def SaysZ (K : PySem.W.Frag) : Prop := obsZ K = valZ
def obsZG (g : Addr → Option Obj) : AlZ := obsZ (He.frG g (He.asD g 5))
def hk : PySem.W.Hook where
  α := AlZ
  obs := fun s => obsZG s.heap.get?
  val := fun _ => valZ
  says := fun _ h => ∃ K : PySem.W.Frag, K.In h ∧ SaysZ K
  of := fun _ _ e => ⟨_, He.frG_in, e⟩
  keeps := fun _ _ _ ⟨K, hK, c⟩ k => ⟨K, PySem.W.Frag.In.keeps hK k, c⟩
abbrev R : PySem.W.OpenRow := PySem.W.OpenLaw.row PySem.Challenge.rw_thirtybits_k33_whole_divisions_of_multip
def ob (s : PySem.W.SharedT) : AlZ := obsZG (HandSHeadRun.getT s)
theorem ob_eq (s : PySem.W.SharedT) : ob s = hk.obs s.abs := by
  have e : HandSHeadRun.getT s = s.abs.heap.get? := funext (HandSHeadRun.getT_eq s)
  show obsZG (HandSHeadRun.getT s) = obsZG s.abs.heap.get?
  rw [e]
def loose0 : List PySem.Str := ["_wall", "BitsError", "InvalidMachine", "InvalidBound", "ZeroDivisor", "is_integer", "is_between", "check_integer", "LEAST_BITS", "MOST_BITS", "MOST_CUTOFF", "MOST_WALK", "FIRST", "WORDS", "Machine", "check_machine", "Big", "made", "digits_of", "big_of", "value_of", "check_big", "check_bigs", "check_any", "is_compact", "big", "plain", "looked_down", "lifted", "lowered"]
def loose1 : List PySem.Str := ["adding", "taking", "added", "subtracted", "short_divided", "short_rest", "guessed", "take_product", "put_back", "quotient_digit", "long_steps", "long_divided", "is_below", "cut_off", "are_digits", "floored", "floor_of", "rest_of", "modded", "truncated", "divide_both", "floor_divide", "modulo", "check_long", "long_walk", "_law_source", "_law_draw", "_law_pick", "_law_row", "_law_number"]
def loose2 : List PySem.Str := ["_law_box", "_law_signed", "_law_is_below", "_law_pair", "_law_values", "_law_right", "_law_walks_right"]
def loose : List PySem.Str := loose0 ++ loose1 ++ loose2
abbrev qv : Program := PySem.W.view R.prog [75]
theorem run (w : World) : HandSHeadRun.RunEq R qv hk ob 4000 loose w := by
  intro os
  kernel_rfl
end Tb
set_option Elab.async false
set_option linter.all false
set_option maxRecDepth 100000
set_option maxHeartbeats 4000000
/-! rules that the layer lacks: enumerate of a tuple, a tuple from its end, an or from the other side -/
namespace Tb
open PySem PySem.Spec PyProof.Rows L2
open Sem (wp)
/-! ### enumerate(tuple) -/
theorem meets_enum1 {v : Value} {o : Obj} {H : Heap → Prop} (B : Begins v o H) :
    Meets (Builtin.«enumerate.__new__» ⟨[.type "enumerate", v], []⟩) (fun _ R s => H s.heap ∧
      R (.ok (.ret (.ref (s.heap.push o).objs.size))) { s with heap := (s.heap.push o).push { cls := .type "enumerate", data := .fields #[.none, .bool false, .ref s.heap.objs.size, rawInt 0, .none, .none] } }) :=
  .of_wp fun prog w A R s h => by
    obtain ⟨hp, g, d, tk, os⟩ := s; obtain ⟨h1, h⟩ := h
    have hsub := sub_enumerate
    have q1 : ∀ {A' : Around} {E : Value → Shared → Prop} {Q : Value → Shared → Prop}, Q (.ref hp.objs.size) ⟨hp.push o, g, d, tk, os⟩ → wpAny (model prog w) A' (pyIter v) Q E ⟨hp, g, d, tk, os⟩ :=
      fun q => B.iter prog w _ _ ⟨hp, g, d, tk, os⟩ _ h1 q
    wp_walk using q1
    refine wpAny_stack_any fun st => wpAny_pure ?_
    split
    · rename_i c _ _ _ _ _
      cases (c == Value.type "enumerate")
      · wp_walk using q1
        exact ⟨_, rfl, h⟩
      · wp_walk using q1
        exact ⟨_, rfl, h⟩
    · wp_walk using q1
      exact ⟨_, rfl, h⟩
theorem enum_begins1 {prog : Program} {w : World} {A : Around} {E : Value → Shared → Prop} {s : Shared} {v : Value} {o : Obj} {H : Heap → Prop} {Q : Value → Shared → Prop} (B : Begins v o H) (h1 : H s.heap)
    (h : ∀ h', IsEnum h' (s.heap.objs.size + 1) s.heap.objs.size 0 .none → h'.get? s.heap.objs.size = some o → h'.objs.size = s.heap.objs.size + 2 →
      (∀ b o, s.heap.get? b = some o → h'.get? b = some o) → Q (.ref (s.heap.objs.size + 1)) { s with heap := h' }) :
    wpAny (model prog w) A (call (.type "enumerate") [v]) Q E s := by
  refine callType_new F.called_enumerate (by decide) (F.typeCall_enumerate_1 _) (F.newCall_enumerate_1 _) (fun obj => F.args_object_init_2 obj _) F.entry_enumerate_new
    (meets_enum1 B) ⟨h1, ?_⟩
  have hz : (s.heap.push o).objs.size = s.heap.objs.size + 1 := Heap.size_push ..
  show _ ∧ _
  rw [hz]
  have he : IsEnum ((s.heap.push o).push { cls := .type "enumerate", data := .fields #[.none, .bool false, .ref s.heap.objs.size, rawInt 0, .none, .none] }) (s.heap.objs.size + 1) s.heap.objs.size 0 .none := by
    have := Heap.get?_push_size (s.heap.push o) (o := { cls := .type "enumerate", data := .fields #[.none, .bool false, .ref s.heap.objs.size, rawInt 0, .none, .none] }) rfl
    rw [hz] at this; exact this
  refine ⟨⟨_, he, rfl⟩, h _ he (Heap.get?_push_of_some _ (Heap.get?_push_size _ B.free)) (by rw [Heap.size_push, hz]) fun b o x => Heap.get?_push_of_some _ (Heap.get?_push_of_some _ x)⟩
/-- the tuple at a, each item in a new pair -/
def IteT (K : PySem.W.Frag) (a : Addr) : It :=
  ⟨fun i H => ∃ (xs : List V) (x : V), SqT K H a xs ∧ xs[i]? = some x, fun i H v H' => ∃ T x, v = .ref T ∧ H T = none ∧ H' = upd H T (.tup [.int (i : Nat), x]) ∧ ∀ xs, SqT K H a xs → xs[i]? = some x, fun i H => ∃ xs : List V, SqT K H a xs ∧ xs.length ≤ i⟩
theorem turn_enumT {P : Program} {w : World} {K : PySem.W.Frag} {elts : List Expr} {kk : Nat} {tpos : Pos} (a e it : Addr) :
    Turn P w K (.Tuple elts kk tpos) (IteT K a) [e, it] e (fun i h => (∃ old, IsEnum h e it ((i : Nat) : Int) old) ∧ h.IsTupleIter it a i ∧ e ≠ it) where
  mem := by simp
  obj := fun i h st b hb => by
    obtain ⟨⟨old, he⟩, ⟨o, ho, hc, hd⟩, _⟩ := st
    have e' : b = e ∨ b = it := by simpa using hb
    rcases e' with z | z
    · rw [z]; exact ⟨_, he, fun v q => nomatch q⟩
    · rw [z]; exact ⟨o, ho, fun v q => by rw [hd] at q; cases q⟩
  keep := fun i h h' st k => let ⟨⟨old, he⟩, hi, hne⟩ := st; ⟨⟨old, k e (by simp) _ he⟩, hi.at fun o q => k it (by simp) o q, hne⟩
  item := by
    intro X hP hw hK hc i pins s σ H E I hf st hg
    subst hP hw hK
    obtain ⟨⟨old, he⟩, hit, hne⟩ := st
    obtain ⟨xs, x, hq, hx⟩ := hg
    obtain ⟨its, rv, p, hz⟩ := I.tuple hq
    obtain ⟨u, hu, ru⟩ := rv.get hx
    have hel : e < s.heap.objs.size := Heap.lt_size he
    have hil : it < s.heap.objs.size := by obtain ⟨_, q, _⟩ := hit; exact Heap.lt_size q
    have hp : s.heap.IsTuple a its.toArray := p
    obtain ⟨oa, qa, ca, _⟩ := id hp
    have nea : e ≠ a := fun z => by
      subst z
      rw [he] at qa
      cases qa
      exact absurd (Value.type.inj ca) (by decide)
    have nia : a ≠ it := fun z => by
      subst z
      obtain ⟨oi, qi, ci, _⟩ := id hit
      rw [qa] at qi
      cases qi
      rw [ca] at ci
      exact absurd (Value.type.inj ci) (by decide)
    have D := Draws.tuple (prog := X.prog) (w := X.w) (A := X.A.in1) (I.ok.hd hc) it a nia its.toArray
    have hlt : i < its.toArray.size := by
      have := (List.getElem?_eq_some_iff.mp hx).1
      rw [List.size_toArray, ← rv.length]
      exact this
    refine wpAny_pyNext_enum_itemD D he ⟨hit, hp⟩ hlt hne (by simp [hne, nea]) fun y h' tk hPy ho hit' hT hsz hk => ?_
    have ey : y = u := by
      have h1 : its.toArray[i]? = some y := hPy
      have h2 : its.toArray[i]? = some u := by simpa using hu
      rw [h2] at h1
      exact (Option.some.inj h1).symm
    subst ey
    refine ⟨_, rfl, wpAny_letOwnedTupleGo_enum (s := { s with heap := h', toks := tk + 1 }) ho fun h'' he' sb => ?_⟩
    have hT2 : h''.get? s.heap.objs.size = some { cls := .type "tuple", data := .seq #[.int i tk, y] } := (sb.2 _ (Nat.ne_of_gt hel)).trans hT
    have new : ObjOk X.prog X.w (upd H s.heap.objs.size (.tup [.int (i : Nat), x])) h'' s.heap.objs.size (.tup [.int (i : Nat), x]) :=
      ⟨by show 2 ≤ sizeLine; decide, [.int i tk, y], .cons ⟨_, rfl⟩ (.cons ru .nil), ⟨_, hT2, rfl, _, rfl⟩⟩
    have I1 : Inv X pins σ (upd H s.heap.objs.size (.tup [.int (i : Nat), x])) { s with heap := h'', toks := tk + 1 } :=
      I.turnedNew (ch := [e, it]) (fun b ob hb q => (sb.2 b (fun z => hb (by simp [z]))).trans (hk b ob (fun z => hb (by simp [z])) (fun z => hb (by simp [z])) q)) hf (Nat.le_refl _) new
    refine ⟨.ref s.heap.objs.size, _, I1, rfl, ⟨_, x, rfl, I.hok.fresh (Nat.le_refl _), rfl, fun ys hy => by rw [I.tuple_inj hy hq]; exact hx⟩, ⟨⟨y, ?_⟩, hit'.1.at fun o q => (sb.2 it (Ne.symm hne)).trans q, hne⟩, fun b hb => ?_⟩
    · have e1 : ((i + 1 : Nat) : Int) = (i : Int) + 1 := by omega
      rw [e1]; exact he'
    · have hb' : b < s.heap.objs.size := by
        have e' : b = e ∨ b = it := by simpa using hb
        rcases e' with z | z
        · rw [z]; exact hel
        · rw [z]; exact hil
      rw [upd_ne (Nat.ne_of_lt hb')]
      exact (hf b hb).1
  done := by
    intro X hP hw hK hc i pins s σ H E I hf st hg
    subst hP hw hK
    obtain ⟨⟨old, he⟩, hit, hne⟩ := st
    obtain ⟨xs, hq, hx⟩ := hg
    obtain ⟨its, rv, p, hz⟩ := I.tuple hq
    obtain ⟨f0, f1, f2, f3, f4, f5⟩ := hf it (by simp)
    have hl := rv.length
    have hp : s.heap.IsTuple a its.toArray := p
    have hT : s.TypeIs (.ref e) "enumerate" := ⟨_, he, rfl⟩
    unfold pyNext
    refine wpAny_bind (wpAny_attempt (wpAny_callSpecial?_slot (name := Str.ofString "__next__") hT F.slot_enumerate_next
      (wpAny_call_entry F.slot_enumerate_next hT F.entry_enumerate_next ?_ (F.args_enumerate_next_1 _))))
    show wpAny _ _ (field (.ref e) 2 >>= _) _ _ _
    refine wpAny_bind (wpAny_field he rfl (x := .ref it) rfl ?_)
    refine wpAny_bind (wpAny_nextOf_tuple_end (I.ok.hd hc) hit hp (by simp; omega) fun h' x he' hx' => ?_)
    obtain ⟨o, ho, hc⟩ := hx'
    refine wpAny_bind (wpAny_isInstance (T := "StopIteration") (b := true) ⟨o, ho, hc⟩ isSubtype_stop ?_)
    exact wpAny_pure ⟨rfl, I.turned (t' := s.toks) (fun b o hb q => he' b o hb q) f0 f1 f3 f4 f5⟩
  self := fun A i s Q E st h => let ⟨⟨_, he⟩, _⟩ := st; wpAny_pyIter_enum he h
def iEnumT (K : PySem.W.Frag) (ta : TA) : TI := fun σ H R => ta σ H fun vs H1 => ∃ a xs, vs = [.ref a] ∧ SqT K H1 a xs ∧ R (IteT K a) H1
theorem pi_enumT {X : Cx} {e : Expr} {ta : TA} {p pos tpos : Pos} {elts : List Expr} {kk : Nat} (hg : Gl X "enumerate") (hm : X.mg "enumerate" = none) (ha : PA X [e] ta) (hs : starEach [e] X.env = [(false, eval e X.env)] := by rfl) :
    PI X (.Tuple elts kk tpos) (.Call (.Name "enumerate" p) [e] [] pos) (iEnumT X.K ta) := by
  refine ⟨fun pins s σ H R I h => ?_⟩
  refine Call_ (ld_blt I hg hm boot_enumerate (PyProof.Rows.callWith_type1 (thn (ha.run pos pins s σ H _ I h) fun us s1 ⟨vs, H1, I1, r1, q1⟩ => ?_) hs rfl))
  obtain ⟨a, xs, ex, hq, q⟩ := q1
  subst ex
  cases r1 with
  | cons r rr =>
    cases rr
    cases r
    obtain ⟨its, rv, p', hz⟩ := I1.tuple hq
    refine enum_begins1 (begins_tuple a its.toArray) (show s1.heap.IsTuple a its.toArray from p') fun h' he hit hsz hk => wpAny_pyIter_enum he ?_
    have I2 : Inv X pins σ H1 { s1 with heap := h' } := I1.kept (t' := s1.toks) hk
    refine ⟨s1.heap.objs.size + 1, [s1.heap.objs.size + 1, s1.heap.objs.size], _, _, H1, rfl, I2, turn_enumT a (s1.heap.objs.size + 1) s1.heap.objs.size, ⟨⟨.none, he⟩, ⟨_, hit, rfl, rfl⟩, Nat.succ_ne_self _⟩, fun b hb => ?_, q⟩
    have e' : b = s1.heap.objs.size + 1 ∨ b = s1.heap.objs.size := by simpa using hb
    have hle : s1.heap.objs.size ≤ b := by
      rcases e' with z | z
      · rw [z]; exact Nat.le_add_right _ _
      · rw [z]; exact Nat.le_refl _
    exact I1.fpOk hle (I1.hok.fresh hle)
theorem walk_enumT {K : PySem.W.Frag} {a : Addr} {xs : List V} : Walk (IteT K a) xs.length (fun H => SqT K H a xs) (YPair (fun i => some (.int (i : Nat))) (fun i => xs[i]?)) := by
  refine ⟨fun i _ hi q => ⟨xs, xs[i], q, by simp [hi]⟩, fun _ q => ⟨xs, q, Nat.le_refl _⟩, fun i H v H' _ q y => ?_⟩
  obtain ⟨T, x, h1, h2, h3, h4⟩ := y
  exact ⟨T, .int (i : Nat), x, h1, h2, h3, rfl, h4 xs q⟩
/-! ### t[::-1] of a tuple -/
def tRevT (K : PySem.W.Frag) (te : TE) : TE := fun σ H Q => te σ H fun x H1 => ∃ a xs, x = .ref a ∧ SqT K H1 a xs ∧ ∀ p, H1 p = none → Q (.ref p) (upd H1 p (.tup xs.reverse))
theorem places_rev (n : Nat) : Builtin.Slice.slicePlaces ((n : Int) - 1) (-1) (-1) = n := by
  unfold Builtin.Slice.slicePlaces
  have h1 : ¬ ((-1 : Int) > 0) := by decide
  by_cases h : (n : Int) - 1 > -1
  · simp only [h1, if_false, h, if_true]
    rw [show (- -1 : Int) = 1 by decide, Int.ediv_one]
    omega
  · simp only [h1, if_false, h]
    omega
theorem adjust_rev (n : Nat) : Builtin.Slice.sliceAdjust none none (-1) (n : Int) = ((n : Int) - 1, -1) := by
  unfold Builtin.Slice.sliceAdjust
  have h1 : (-1 : Int) < 0 := by decide
  simp only [h1, if_true]
theorem sliceApplied_rev {prog : Program} {w : World} {A : Around} {E : Value → Shared → Prop} {s : Shared} {sl : Addr} {vl vu vs : Value} {n : Nat} {Q : Int × Int × Nat → Shared → Prop} (hs : s.heap.IsSliceOf sl vl vu vs) (pl : IsPart vl none) (pu : IsPart vu none) (ps : IsPart vs (some (-1)))
    (h : Q ((n : Int) - 1, -1, n) s) : wpAny (model prog w) A (Builtin.Slice.sliceApplied (.ref sl) (pure (n : Int))) Q E s := by
  obtain ⟨os, hos, hcs, hds⟩ := id hs
  unfold Builtin.Slice.sliceApplied Builtin.Slice.sliceFields
  refine wpAny_bind (wpAny_bind (wpAny_field hos hds (x := vl) rfl (wpAny_bind (wpAny_field hos hds (x := vu) rfl (wpAny_bind (wpAny_field hos hds (x := vs) rfl (wpAny_pure ?_)))))))
  refine wpAny_bind (HT.slicePart_ ps ?_)
  show wpAny _ _ (if ((-1 : Int) == 0) = true then _ else _) _ _ s
  rw [if_neg (by decide)]
  refine wpAny_bind (HT.slicePart_ pl (wpAny_bind (HT.slicePart_ pu (wpAny_bind (wpAny_pure ?_)))))
  show wpAny _ _ (match Builtin.Slice.sliceAdjust none none (-1) (n : Int) with | (lo, hi) => pure (lo, (-1 : Int), Builtin.Slice.slicePlaces lo hi (-1))) _ _ s
  rw [adjust_rev n]
  show wpAny _ _ (pure ((n : Int) - 1, (-1 : Int), Builtin.Slice.slicePlaces ((n : Int) - 1) (-1) (-1))) _ _ s
  rw [places_rev]
  exact wpAny_pure h
theorem fm_congr {α β : Type} {f g : α → Option β} : ∀ {l : List α}, (∀ k ∈ l, f k = g k) → l.filterMap f = l.filterMap g
  | [], _ => rfl
  | a :: r, h => by
    rw [List.filterMap_cons, List.filterMap_cons, h a List.mem_cons_self, fm_congr fun k hk => h k (List.mem_cons_of_mem _ hk)]
theorem pick_rev (xs : Array Value) : ((List.range xs.size).filterMap fun (k : Nat) => xs[((xs.size : Int) - 1 + (k : Int) * (-1)).toNat]?).toArray = xs.toList.reverse.toArray := by
  have e : (List.range xs.size).filterMap (fun (k : Nat) => xs[((xs.size : Int) - 1 + (k : Int) * (-1)).toNat]?) = ((List.range xs.size).map fun k => xs.size - 1 - k).filterMap (xs[·]?) := by
    rw [List.filterMap_map]
    refine fm_congr fun k hk => ?_
    have := List.mem_range.mp hk
    show xs[((xs.size : Int) - 1 + (k : Int) * (-1)).toNat]? = xs[xs.size - 1 - k]?
    rw [show ((xs.size : Int) - 1 + (k : Int) * (-1)).toNat = xs.size - 1 - k by omega]
  rw [e, PySem.W.krv_range, List.filterMap_reverse, PySem.W.krv_all]
theorem getItem_tuple_rev {prog : Program} {w : World} {A : Around} {E : Value → Shared → Prop} {s : Shared} {t sl : Addr} {items : Array Value} {vl vu vs : Value} {Q : Value → Shared → Prop} (ht : IsTup s.heap t items) (hs : s.heap.IsSliceOf sl vl vu vs) (pl : IsPart vl none) (pu : IsPart vu none) (ps : IsPart vs (some (-1)))
    (h : Q (.ref s.heap.objs.size) { s with heap := s.heap.push { cls := .type "tuple", data := .seq items.toList.reverse.toArray } })
    (hsz : items.size ≤ sizeLine) : wpAny (model prog w) A (getItem (.ref t) (.ref sl)) Q E s := by
  obtain ⟨os, hos, hcs, hds⟩ := id hs
  have hTs : s.TypeIs (.ref sl) "slice" := ⟨os, hos, hcs⟩
  unfold getItem
  try with_reducible refine wpAny_holding ?_
  first | refine wpAny_bind (wpAny_pure ?_) | skip
  refine wpAny_bind (wpAny_sequenceKey ht.typeIs (by decide) ?_)
  refine wpAny_bind (wpAny_callSpecial?_slot (name := Str.ofString "__getitem__") ht.typeIs PyProof.Rows.slot_tuple_getitem
    (wpAny_call_entry PyProof.Rows.slot_tuple_getitem ht.typeIs entry_tuple_getitem ?_ (args_tuple_getitem _ _)))
  show wpAny _ _ (Builtin.Tuple.tupleItemsOf (.ref t) >>= _) _ _ s
  refine wpAny_bind (tupleItemsOf_ ht ?_)
  refine wpAny_bind (wpAny_typeOf hTs ?_)
  rw [if_pos (by decide)]
  refine wpAny_bind (sliceApplied_rev hs pl pu ps ?_)
  have hno : ¬ ((((items.size : Int) - 1) == 0 && (-1 : Int) == 1 && items.size == items.size) = true) := by
    intro q
    rw [Bool.and_eq_true, Bool.and_eq_true] at q
    exact absurd (eq_of_beq q.1.2) (by decide)
  show wpAny _ _ (if (((items.size : Int) - 1) == 0 && (-1 : Int) == 1 && items.size == items.size) = true then _ else _) _ _ s
  rw [if_neg hno, pick_rev]
  have htake : sizeOk (.seq items.toList.reverse.toArray) := by
    show (items.toList.reverse.toArray).size ≤ sizeLine
    rw [List.size_toArray, List.length_reverse, Array.length_toList]
    exact hsz
  first
    | exact wpAny_bind (m := Builtin.Tuple.tupleExact _) (wpAny_newObj_type (wpAny_pure ⟨_, rfl, wpAny_pure h⟩) htake)
    | exact wpAny_bind (m := Builtin.Tuple.tupleExact _) (wpAny_newObj_type (wpAny_bind (wpAny_pure (wpAny_pure ⟨_, rfl, wpAny_pure h⟩))) htake)
    | exact wpAny_bind (wpAny_bind (m := Builtin.Tuple.tupleExact _) (wpAny_newObj_type (wpAny_pure (wpAny_pure ⟨_, rfl, wpAny_pure h⟩)) htake))
    | exact wpAny_bind (wpAny_bind (m := Builtin.Tuple.tupleExact _) (wpAny_newObj_type (wpAny_pure ⟨_, rfl, wpAny_pure h⟩) htake))
theorem pe_revT {X : Cx} {e : Expr} {te : TE} {k : Nat} {p1 p2 p3 pos : Pos} (he : PE X e te) : PE X (.Subscript e (.Slice none none (some (.UnaryOp .USub (.Constant (.int 1) k p1) p2)) p3) pos) (tRevT X.K te) := by
  refine ⟨fun pins s σ H Q I h => ?_⟩
  refine Subscript_ (thn (he.run pins s σ H _ I h) fun v s1 ⟨x, H1, I1, r1, q1⟩ => ?_)
  obtain ⟨a, xs, ex, hx, q⟩ := q1
  subst ex
  cases r1
  have hst : PO X (some (.UnaryOp .USub (.Constant (.int 1) k p1) p2)) (tPart (tUn (rU fun i => .int (-i)) (tC (.int 1)))) := po_some (pe_un un_neg pe_int)
  refine wpAny_Slice (thn (po_none.run pins s1 σ H1 (fun o H2 => o = none ∧ H2 = H1) I1 ⟨rfl, rfl⟩) fun vl s2 ⟨l, H2, I2, pl, el, e2⟩ => ?_)
  subst el e2
  refine thn (po_none.run pins s2 σ H2 (fun o H3 => o = none ∧ H3 = H2) I2 ⟨rfl, rfl⟩) fun vu s3 ⟨u, H3, I3, pu, eu, e3⟩ => ?_
  subst eu e3
  refine thn (hst.run pins s3 σ H3 (fun o H4 => o = some (-1) ∧ H4 = H3) I3 ⟨1, rfl, -1, rfl, rfl, rfl⟩) fun vs s4 ⟨o, H4, I4, ps, eo, e4⟩ => ?_
  subst eo e4
  have I5 : Inv X pins σ H4 { s4 with heap := s4.heap.push { cls := .type "slice", data := .fields #[vl, vu, vs] } } := I4.kept (t' := s4.toks) fun b ob q => Heap.get?_push_of_some _ q
  obtain ⟨its, r, ht, hz⟩ := I5.tuple hx
  have hlen := r.length
  show wpAny (model X.prog X.w) X.A (subscriptTail e (.Slice none none (some (.UnaryOp .USub (.Constant (.int 1) k p1) p2)) p3) (.ref a) (.ref s4.heap.objs.size)) (EP X pins σ Q) X.xe { s4 with heap := s4.heap.push { cls := .type "slice", data := .fields #[vl, vu, vs] } }
  refine tail_any (ops := [.ref a, .ref s4.heap.objs.size]) ht.typeIs (PyProof.Rows.slot_tuple_getitem.lookup) ?_ (by with_unfolding_all rfl)
  refine getItem_tuple_rev ht (Heap.IsSliceOf.new _ vl vu vs) pl pu ps ?_ (by rw [List.size_toArray]; omega)
  refine ⟨.ref _, _, I5.laid (t' := s4.toks) (o := .tup xs.reverse) (fun b ob q => Heap.get?_push_of_some _ q) (Nat.le_refl _) ?_, rfl, q _ (I5.hok.fresh (Nat.le_refl _))⟩
  exact ⟨by rw [List.length_reverse]; exact hz, _, r.reverse, IsTup.new _ _⟩
/-! ### r | (q << k) with r below 2 ^ k; k bits as a natural -/
theorem or_lowR {q r : Int} {k : Nat} (hq : 0 ≤ q) (h0 : 0 ≤ r) (h1 : r < 2 ^ k) : Builtin.bitOr r (q * 2 ^ k) = q * 2 ^ k + r := by
  have hn : 0 ≤ q * 2 ^ k := Int.mul_nonneg hq (Int.le_of_lt (PySem.W.kbt_pos k))
  rw [bitOr_nn h0 hn, Nat.or_comm, ← bitOr_nn hn h0]
  exact or_low hq h0 h1
theorem op_orR {X : Cx} : OpR X (binaryOp .BitOr) (fun x y H Q => ∃ (a r : Int) (k : Nat), y = .int (a * 2 ^ k) ∧ x = .int r ∧ (0 ≤ a ∧ 0 ≤ r ∧ r < 2 ^ k) ∧ Q (.int (a * 2 ^ k + r)) H) := by
  intro pins s σ H x y v u Q I rx ry h
  obtain ⟨a, r, k, rfl, rfl, ⟨h1, h2, h3⟩, q⟩ := h
  rw [← or_lowR h1 h2 h3] at q
  exact op_or pins s σ H _ _ v u Q I rx ry ⟨_, _, rfl, rfl, q⟩
end Tb
set_option Elab.async false
set_option linter.all false
set_option maxRecDepth 100000
set_option maxHeartbeats 4000000
/-! the frame of the proof: what the top has left (Tx), promises by name (Fn, Mt, Mkd), machines and numbers on the heap -/
namespace Tb
open PySem PySem.Spec PyProof.Rows L2
/-! ### promises by name -/
structure Def (K : PySem.W.Frag) (mg : Str → Option Value) (x : Str) (st : Stmt) (ps : List Str) : Prop where
  ex : ∃ (f : Addr) (fd : FuncData), mg x = some (.ref f) ∧ FunD K x x (defArgs st) (defBody st) (defScope st) [] [] f fd ∧ Binds K fd ps []
structure Fn (P : Program) (w : World) (K : PySem.W.Frag) (mg : Str → Option Value) (base : Heap) (k : Nat) (x : Str) (ps : List Str) (sp : Sp) : Prop where
  ex : ∃ (f : Addr) (fd : FuncData), mg x = some (.ref f) ∧ PySem.W.keepIn K (.ref f) = true ∧ Binds K fd ps [] ∧ FnOk P w K mg base CX0 k f fd ps sp
section
variable {P : Program} {w : World} {K : PySem.W.Frag} {mg : Str → Option Value} {base : Heap}
theorem Def.ok {x : Str} {st : Stmt} {N ps : List Str} {k : Nat} {sp : Sp} (D : Def K mg x st ps) (S : FnScope N ps (defScope st)) (len : ∀ vs H Q E, sp vs H Q E → vs.length = ps.length)
    (hbody : ∀ (f : Addr) (cdv : Value) (A : Around) (outer : List Env) (s : Shared) (H : Hp) (vs : List V) (Q : VK) (E : XK), Room k (A.deeper (envOfC x (defScope st) s.heap.objs.size f cdv)) → sp vs H Q E →
      ∃ t, PSs (cxOf CX0 P w K mg base N x (defScope st) f cdv A outer s H E).nox (defBody st) t ∧ t { nx := fun _ H' => Q .non H', rt := Q } (start N vs) H) : Fn P w K mg base (k + 1) x ps sp := by
  obtain ⟨f, fd, hm, F, hb⟩ := D.ex
  refine ⟨f, fd, hm, F.kp, hb, F.ok S len fun cdv A outer s H vs Q E hr hsp => ?_⟩
  obtain ⟨t, h, q⟩ := hbody f cdv A outer s H vs Q E hr hsp
  exact ⟨t, h.nox, q⟩
theorem Fn.mono {x : Str} {ps : List Str} {j k : Nat} {sp : Sp} (G : Fn P w K mg base j x ps sp) (h : j ≤ k) : Fn P w K mg base k x ps sp := by
  obtain ⟨f, fd, hm, kp, hb, F⟩ := G.ex
  exact ⟨f, fd, hm, kp, hb, F.mono h⟩
end
section
variable {X : Cx} {x m : Str} {p pos apos : Pos} {e o : Expr} {es : List Expr} {ta : TE} {t : TA} {k : Nat} {ps : List Str} {sp : Sp}
theorem pe_fn (G : Fn X.prog X.w X.K X.mg X.base k x ps sp) (hr : Room k X.A) (ha : PA X (e :: es) t) (hg : Gl X x := by rfl) (hdb : (x == ("__debug__" : Str)) = false := by decide)
    (he : starEach (e :: es) X.env = (false, eval e X.env) :: starEach es X.env := by rfl) (hpl : (backTo pos (starEach es X.env)).any (·.1) = false := by rfl) : PE X (.Call (.Name x p) (e :: es) [] pos) (tCall sp [] E0 t) := by
  obtain ⟨f, fd, hm, kp, hb, F⟩ := G.ex
  exact pe_call F hr hg hm kp hb .nil pass0 ha hdb he hpl
/-- a method -/
structure Mt (P : Program) (w : World) (K : PySem.W.Frag) (mg : Str → Option Value) (base : Heap) (k : Nat) (C : Addr) (m : Str) (ps : List Str) (sp : Sp) : Prop where
  cl : Cls K C
  ex : ∃ (f : Addr) (fd : FuncData), Meth K C m f ∧ Binds K fd ps [] ∧ FnOk P w K mg base CX0 k f fd ps sp
theorem pe_mt {C : Addr} {pl : Sem Bool} (G : Mt X.prog X.w X.K X.mg X.base k C m ps sp) (hr : Room k X.A) (he : PE X o ta) (ha : PA X (e :: es) t)
    (hst : starEach (e :: es) X.env = (false, eval e X.env) :: starEach es X.env := by rfl) (hpl : (backTo pos (starEach es X.env)).any (·.1) = false := by rfl)
    (ht : eval (.Call (.Attribute o m apos) (e :: es) [] pos) X.env = (do
      let ov ← eval o X.env
      standAt apos.atName
      let (f, first) ← holding [ov] (getMethod ov m pl)
      callWith pos f first (backTo pos (starEach (e :: es) X.env)) (backToKw pos (keywordEach [] X.env))) := by rfl) :
    PE X (.Call (.Attribute o m apos) (e :: es) [] pos) (tMeth C m sp [] E0 ta t) := by
  obtain ⟨f, fd, hm, hb, F⟩ := G.ex
  exact pe_meth he G.cl hm F hr hb .nil pass0 ha hst hpl ht
theorem pe_mt0 {C : Addr} {pl : Sem Bool} (G : Mt X.prog X.w X.K X.mg X.base k C m ps sp) (hr : Room k X.A) (he : PE X o ta)
    (ht : eval (.Call (.Attribute o m apos) [] [] pos) X.env = (do
      let ov ← eval o X.env
      standAt apos.atName
      let (f, first) ← holding [ov] (getMethod ov m pl)
      callWith pos f first (backTo pos (starEach [] X.env)) (backToKw pos (keywordEach [] X.env))) := by rfl) :
    PE X (.Call (.Attribute o m apos) [] [] pos) (tMeth C m sp [] E0 ta tNil) := by
  obtain ⟨f, fd, hm, hb, F⟩ := G.ex
  exact pe_meth0 he G.cl hm F hr hb .nil pass0 ht
/-- a new instance -/
structure Mkd (P : Program) (w : World) (K : PySem.W.Frag) (mg : Str → Option Value) (base : Heap) (k : Nat) (C : Addr) (x : Str) (ps : List Str) (dvs : List V) (sp : Sp) : Prop where
  ex : ∃ (f : Addr) (fd : FuncData) (ds : List Value), Mk K C f ∧ mg x = some (.ref C) ∧ Binds K fd ps ds ∧ Vals dvs ds ∧ FnOk P w K mg base CX0 k f fd ps sp
theorem pe_mk {C : Addr} {dvs : List V} (G : Mkd X.prog X.w X.K X.mg X.base k C x ps dvs sp) (hr : Room (k + 1) X.A) (ha : PA X (e :: es) t) (hg : Gl X x := by rfl) (hdb : (x == ("__debug__" : Str)) = false := by decide)
    (he : starEach (e :: es) X.env = (false, eval e X.env) :: starEach es X.env := by rfl) (hpl : (backTo pos (starEach es X.env)).any (·.1) = false := by rfl) : PE X (.Call (.Name x p) (e :: es) [] pos) (tMake C sp dvs E0 t) := by
  obtain ⟨f, fd, ds, M, hm, hb, hd, F⟩ := G.ex
  exact pe_make M F hr hg hm hb hd pass0 ha hdb he hpl
theorem pe_mk0 {C : Addr} {dvs : List V} (G : Mkd X.prog X.w X.K X.mg X.base k C x ps dvs sp) (hr : Room (k + 1) X.A) (hg : Gl X x := by rfl) (hdb : (x == ("__debug__" : Str)) = false := by decide) : PE X (.Call (.Name x p) [] [] pos) (tMake C sp dvs E0 tNil) := by
  obtain ⟨f, fd, ds, M, hm, hb, hd, F⟩ := G.ex
  exact pe_make0 M F hr hg hm hb hd pass0 hdb
end
/-! ### what the top has left -/
abbrev ga0 (K : PySem.W.Frag) (x : Str) : Addr := match PySem.W.nsIn K mainGlobals x with
  | some (some (.ref a)) => a
  | _ => 0
abbrev cM (K : PySem.W.Frag) : Addr := ga0 K "Machine"
abbrev cB (K : PySem.W.Frag) : Addr := ga0 K "Big"
def wordsS : List Str := ["short", "sum", "product", "quotient", "corrected", "restored", "shifted", "combined", "complemented", "looked"]
structure Tx (K : PySem.W.Frag) (mg : Str → Option Value) : Prop where
  z_isinstance : mg "isinstance" = none
  z_int : mg "int" = none
  z_bool : mg "bool" = none
  z_len : mg "len" = none
  z_range : mg "range" = none
  z_divmod : mg "divmod" = none
  z_abs : mg "abs" = none
  z_max : mg "max" = none
  z_enumerate : mg "enumerate" = none
  z_tuple : mg "tuple" = none
  z_dict : mg "dict" = none
  c_LEAST_BITS : ∃ u, mg "LEAST_BITS" = some u ∧ RelV (.int 8) u
  c_MOST_BITS : ∃ u, mg "MOST_BITS" = some u ∧ RelV (.int 30) u
  c_MOST_CUTOFF : ∃ u, mg "MOST_CUTOFF" = some u ∧ RelV (.int 1000) u
  c_MOST_WALK : ∃ u, mg "MOST_WALK" = some u ∧ RelV (.int 1000) u
  c_WORDS : ∃ u, mg "WORDS" = some u ∧ RelV (.ref (ga0 K "WORDS")) u
  words : ∀ H, SqT K H (ga0 K "WORDS") (wordsS.map V.str)
  v_Machine : ∃ u, mg "Machine" = some u ∧ RelV (.ref (cM K)) u
  clM : Cls K (cM K)
  isM : C8.InsC K (cM K)
  v_Big : ∃ u, mg "Big" = some u ∧ RelV (.ref (cB K)) u
  clB : Cls K (cB K)
  isB : C8.InsC K (cB K)
  nM_width : NoAttr K (cM K) "width"
  nM_limit_of_rows : NoAttr K (cM K) "limit_of_rows"
  nM_base : NoAttr K (cM K) "base"
  nM_counts : NoAttr K (cM K) "counts"
  nM_entered : NoAttr K (cM K) "entered"
  nB_width : NoAttr K (cB K) "width"
  nB_side : NoAttr K (cB K) "side"
  nB_row : NoAttr K (cB K) "row"
  d_is_integer : Def K mg "is_integer" sIsInteger pIsInteger
  d_is_between : Def K mg "is_between" sIsBetween pIsBetween
  d_check_integer : Def K mg "check_integer" sCheckInteger pCheckInteger
  d_check_machine : Def K mg "check_machine" sCheckMachine pCheckMachine
  d_made : Def K mg "made" sMade pMade
  d_digits_of : Def K mg "digits_of" sDigitsOf pDigitsOf
  d_big_of : Def K mg "big_of" sBigOf pBigOf
  d_value_of : Def K mg "value_of" sValueOf pValueOf
  d_check_big : Def K mg "check_big" sCheckBig pCheckBig
  d_check_bigs : Def K mg "check_bigs" sCheckBigs pCheckBigs
  d_check_any : Def K mg "check_any" sCheckAny pCheckAny
  d_is_compact : Def K mg "is_compact" sIsCompact pIsCompact
  d_big : Def K mg "big" sBig pBig
  d_plain : Def K mg "plain" sPlain pPlain
  d_looked_down : Def K mg "looked_down" sLookedDown pLookedDown
  d_lifted : Def K mg "lifted" sLifted pLifted
  d_lowered : Def K mg "lowered" sLowered pLowered
  d_adding : Def K mg "adding" sAdding pAdding
  d_taking : Def K mg "taking" sTaking pTaking
  d_added : Def K mg "added" sAdded pAdded
  d_subtracted : Def K mg "subtracted" sSubtracted pSubtracted
  d_short_divided : Def K mg "short_divided" sShortDivided pShortDivided
  d_short_rest : Def K mg "short_rest" sShortRest pShortRest
  d_guessed : Def K mg "guessed" sGuessed pGuessed
  d_take_product : Def K mg "take_product" sTakeProduct pTakeProduct
  d_put_back : Def K mg "put_back" sPutBack pPutBack
  d_quotient_digit : Def K mg "quotient_digit" sQuotientDigit pQuotientDigit
  d_long_steps : Def K mg "long_steps" sLongSteps pLongSteps
  d_long_divided : Def K mg "long_divided" sLongDivided pLongDivided
  d_is_below : Def K mg "is_below" sIsBelow pIsBelow
  d_cut_off : Def K mg "cut_off" sCutOff pCutOff
  d_are_digits : Def K mg "are_digits" sAreDigits pAreDigits
  d_floored : Def K mg "floored" sFloored pFloored
  d_floor_of : Def K mg "floor_of" sFloorOf pFloorOf
  d_rest_of : Def K mg "rest_of" sRestOf pRestOf
  d_modded : Def K mg "modded" sModded pModded
  d_truncated : Def K mg "truncated" sTruncated pTruncated
  d_divide_both : Def K mg "divide_both" sDivideBoth pDivideBoth
  d_floor_divide : Def K mg "floor_divide" sFloorDivide pFloorDivide
  d_modulo : Def K mg "modulo" sModulo pModulo
  d_check_long : Def K mg "check_long" sCheckLong pCheckLong
  d_long_walk : Def K mg "long_walk" sLongWalk pLongWalk
  d_Lsource : Def K mg "_law_source" sLSource pLSource
  d_Ldraw : Def K mg "_law_draw" sLDraw pLDraw
  d_Lpick : Def K mg "_law_pick" sLPick pLPick
  d_Lrow : Def K mg "_law_row" sLRow pLRow
  d_Lnumber : Def K mg "_law_number" sLNumber pLNumber
  d_Lbox : Def K mg "_law_box" sLBox pLBox
  d_Lsigned : Def K mg "_law_signed" sLSigned pLSigned
  d_Lis_below : Def K mg "_law_is_below" sLIsBelow pLIsBelow
  d_Lpair : Def K mg "_law_pair" sLPair pLPair
  d_Lvalues : Def K mg "_law_values" sLValues pLValues
  d_Lright : Def K mg "_law_right" sLRight pLRight
  d_Lwalks_right : Def K mg "_law_walks_right" sLWalksRight pLWalksRight
  d_law : Def K mg "law" sLaw pLaw
  m_count : ∃ (f : Addr) (fd : FuncData), Meth K (cM K) "count" f ∧ FunD K "count" "Machine.count" (defArgs sMCount) (defBody sMCount) (defScope sMCount) [] [] f fd ∧ Binds K fd pMCount []
  m_enter : ∃ (f : Addr) (fd : FuncData), Meth K (cM K) "enter" f ∧ FunD K "enter" "Machine.enter" (defArgs sMEnter) (defBody sMEnter) (defScope sMEnter) [] [] f fd ∧ Binds K fd pMEnter []
  m_parts : ∃ (f : Addr) (fd : FuncData), Meth K (cM K) "parts" f ∧ FunD K "parts" "Machine.parts" (defArgs sMParts) (defBody sMParts) (defScope sMParts) [] [] f fd ∧ Binds K fd pMParts []
  i_Machine : ∃ (f : Addr) (fd : FuncData), Mk K (cM K) f ∧ mg "Machine" = some (.ref (cM K)) ∧ FunD K "__init__" "Machine.__init__" (defArgs sMInit) (defBody sMInit) (defScope sMInit) [.int 30, .int 70] [] f fd ∧ Binds K fd pMInit [] ∧ (∃ ds, Vals [V.int 70] ds ∧ Binds K fd pMInit ds) ∧ ∃ ds, Vals [V.int 30, V.int 70] ds ∧ Binds K fd pMInit ds
  i_Big : ∃ (f : Addr) (fd : FuncData), Mk K (cB K) f ∧ mg "Big" = some (.ref (cB K)) ∧ FunD K "__init__" "Big.__init__" (defArgs sBInit) (defBody sBInit) (defScope sBInit) [] [] f fd ∧ Binds K fd pBInit []
end Tb
set_option Elab.async false
set_option linter.all false
set_option maxRecDepth 100000
set_option maxHeartbeats 4000000
/-! machines and numbers on the heap -/
namespace Tb
open PySem PySem.Spec PyProof.Rows L2
theorem szl {n : Nat} (h : n ≤ 100000) : n ≤ sizeLine := Nat.le_trans h (by decide)
theorem szlt {n : Nat} (h : n ≤ 100000) : n < sizeLine := Nat.lt_of_le_of_lt h (by decide)
/-! ### fields -/
def mfl (w : Nat) (lim : Int) (cA eA : Addr) : List (Str × V) := [("width", .int (w : Int)), ("limit_of_rows", .int lim), ("base", .int (2 ^ w)), ("counts", .ref cA), ("entered", .ref eA)]
def bfl (w : Nat) (s : Int) (t : Addr) : List (Str × V) := [("width", .int (w : Int)), ("side", .int s), ("row", .ref t)]
theorem lk0 {x : Str} {v : V} {r : List (Str × V)} : ((x, v) :: r).lookup x = some v := by
  rw [List.lookup_cons]
  simp
theorem lk1 {x y : Str} {v : V} {r : List (Str × V)} (h : decide (y = x) = false) : ((x, v) :: r).lookup y = r.lookup y := by
  rw [List.lookup_cons]
  have : (y == x) = false := by
    cases q : y == x with
    | false => rfl
    | true =>
      have := beq_iff_eq.mp q
      rw [this] at h
      simp at h
  rw [this]
section
variable {w : Nat} {lim : Int} {cA eA : Addr} {s : Int} {t : Addr}
theorem mf_width : (mfl w lim cA eA).lookup ("width" : Str) = some (.int (w : Int)) := lk0
theorem mf_limit : (mfl w lim cA eA).lookup ("limit_of_rows" : Str) = some (.int lim) := (lk1 (by decide +kernel)).trans lk0
theorem mf_base : (mfl w lim cA eA).lookup ("base" : Str) = some (.int (2 ^ w)) := (lk1 (by decide +kernel)).trans ((lk1 (by decide +kernel)).trans lk0)
theorem mf_counts : (mfl w lim cA eA).lookup ("counts" : Str) = some (.ref cA) := (lk1 (by decide +kernel)).trans ((lk1 (by decide +kernel)).trans ((lk1 (by decide +kernel)).trans lk0))
theorem mf_entered : (mfl w lim cA eA).lookup ("entered" : Str) = some (.ref eA) := (lk1 (by decide +kernel)).trans ((lk1 (by decide +kernel)).trans ((lk1 (by decide +kernel)).trans ((lk1 (by decide +kernel)).trans lk0)))
theorem mf_no {m : Str} (h : [("width" : Str), "limit_of_rows", "base", "counts", "entered"].all (fun x => decide (m = x) == false) = true) : (mfl w lim cA eA).lookup m = none := by
  simp only [List.all_cons, List.all_nil, Bool.and_true, Bool.and_eq_true, beq_iff_eq] at h
  obtain ⟨h1, h2, h3, h4, h5⟩ := h
  exact (lk1 h1).trans ((lk1 h2).trans ((lk1 h3).trans ((lk1 h4).trans ((lk1 h5).trans rfl))))
theorem mf_count : (mfl w lim cA eA).lookup ("count" : Str) = none := mf_no (by decide +kernel)
theorem mf_enter : (mfl w lim cA eA).lookup ("enter" : Str) = none := mf_no (by decide +kernel)
theorem mf_parts : (mfl w lim cA eA).lookup ("parts" : Str) = none := mf_no (by decide +kernel)
theorem bf_width : (bfl w s t).lookup ("width" : Str) = some (.int (w : Int)) := lk0
theorem bf_side : (bfl w s t).lookup ("side" : Str) = some (.int s) := (lk1 (by decide +kernel)).trans lk0
theorem bf_row : (bfl w s t).lookup ("row" : Str) = some (.ref t) := (lk1 (by decide +kernel)).trans ((lk1 (by decide +kernel)).trans lk0)
end
/-! ### a machine -/
structure Mach (K : PySem.W.Frag) (H : Hp) (m cA eA : Addr) (w : Nat) : Prop where
  ob : ∃ (dx : Addr) (lim : Int), H m = some (.ins (cM K) dx (mfl w lim cA eA))
  cs : ∃ kvs : List (Key × V), H cA = some (.dK kvs) ∧ kvs.length ≤ 10 ∧ ∀ x ∈ wordsS, ∃ i : Int, valV kvs (Sum.inr x : Key) = some (.int i)
  en : ∃ es : List V, H eA = some (.lst es) ∧ es.length ≤ 1000
  w8 : 8 ≤ w
  w30 : w ≤ 30
/-- all but what the machine counts by is as it was -/
def Go (cA eA : Addr) (H H' : Hp) : Prop := ∀ b o, H b = some o → b ≠ cA → b ≠ eA → H' b = some o
section
variable {K : PySem.W.Frag} {H H1 H2 : Hp} {m cA eA p x : Addr} {w : Nat} {o : HO} {n : Int}
theorem Same.new (h : H p = none) : Same H (upd H p o) := fun b z e => by
  rw [upd_ne (ne_of_none e h)]
  exact e
theorem Same.at (h : Same H H1) {o : HO} (e : H p = some o) : H1 p = some o := h _ _ e
/-- a new object of ours is written again -/
theorem Same.mut (h : Same H H1) (hp : H p = none) : Same H (upd H1 p o) := fun b z e => by
  rw [upd_ne (ne_of_none e hp)]
  exact h b z e
theorem Same.none (h : Same H H1) (hp : H1 p = Option.none) : H p = Option.none := h.free hp
theorem Same.go (h : Same H H1) : Go cA eA H H1 := fun b z e _ _ => h b z e
theorem Go.refl : Go cA eA H H := fun _ _ e _ _ => e
theorem Go.trans (a : Go cA eA H H1) (b : Go cA eA H1 H2) : Go cA eA H H2 := fun c o h h1 h2 => b c o (a c o h h1 h2) h1 h2
theorem Go.same (a : Go cA eA H H1) (b : Same H1 H2) : Go cA eA H H2 := fun c o h h1 h2 => b c o (a c o h h1 h2)
theorem Go.mut (a : Go cA eA H H1) (hp : H p = none) : Go cA eA H (upd H1 p o) := fun b z e h1 h2 => by
  rw [upd_ne (ne_of_none e hp)]
  exact a b z e h1 h2
theorem Go.new (a : Go cA eA H H1) (hp : H1 p = none) : Go cA eA H (upd H1 p o) := a.same (Same.new hp)
theorem Mach.mc (M : Mach K H m cA eA w) : m ≠ cA := by
  obtain ⟨dx, lim, h⟩ := M.ob
  obtain ⟨kvs, h2, _⟩ := M.cs
  exact ne_of h h2 (by intro z; cases z)
theorem Mach.me (M : Mach K H m cA eA w) : m ≠ eA := by
  obtain ⟨dx, lim, h⟩ := M.ob
  obtain ⟨es, h2, _⟩ := M.en
  exact ne_of h h2 (by intro z; cases z)
theorem Mach.ce (M : Mach K H m cA eA w) : cA ≠ eA := by
  obtain ⟨kvs, h, _⟩ := M.cs
  obtain ⟨es, h2, _⟩ := M.en
  exact ne_of h h2 (by intro z; cases z)
theorem Mach.same (M : Mach K H m cA eA w) (s : Same H H1) : Mach K H1 m cA eA w := by
  obtain ⟨⟨dx, lim, h1⟩, ⟨kvs, h2, h3⟩, ⟨es, h4, h5⟩, h6, h7⟩ := M
  exact ⟨⟨dx, lim, s _ _ h1⟩, ⟨kvs, s _ _ h2, h3⟩, ⟨es, s _ _ h4, h5⟩, h6, h7⟩
/-- an object that is none of the machine's is written -/
theorem Mach.upd (M : Mach K H m cA eA w) (hm : p ≠ m) (hc : p ≠ cA) (he : p ≠ eA) : Mach K (upd H p o) m cA eA w := by
  obtain ⟨⟨dx, lim, h1⟩, ⟨kvs, h2, h3⟩, ⟨es, h4, h5⟩, h6, h7⟩ := M
  exact ⟨⟨dx, lim, by rw [upd_ne hm.symm]; exact h1⟩, ⟨kvs, by rw [upd_ne hc.symm]; exact h2, h3⟩, ⟨es, by rw [upd_ne he.symm]; exact h4, h5⟩, h6, h7⟩
theorem Mach.nc (M : Mach K H m cA eA w) (hp : H p = none) : p ≠ cA := by
  obtain ⟨kvs, h2, _⟩ := M.cs
  exact (ne_of_none h2 hp).symm
theorem Mach.ne (M : Mach K H m cA eA w) (hp : H p = none) : p ≠ eA := by
  obtain ⟨es, h2, _⟩ := M.en
  exact (ne_of_none h2 hp).symm
theorem Mach.nm (M : Mach K H m cA eA w) (hp : H p = none) : p ≠ m := by
  obtain ⟨dx, lim, h2⟩ := M.ob
  exact (ne_of_none h2 hp).symm
/-- a new object of ours (of the entry's H) is written -/
theorem Mach.mut (M0 : Mach K H m cA eA w) (M : Mach K H1 m cA eA w) (hp : H p = none) : Mach K (L2.upd H1 p o) m cA eA w := M.upd (M0.nm hp) (M0.nc hp) (M0.ne hp)
/-- a tuple, an instance stays -/
theorem Go.tup {xs : List V} (g : Go cA eA H H1) (M : Mach K H m cA eA w) (h : H p = some (.tup xs)) : H1 p = some (.tup xs) := by
  obtain ⟨kvs, h2, _⟩ := M.cs
  obtain ⟨es, h3, _⟩ := M.en
  exact g _ _ h (ne_of h h2 (by intro z; cases z)) (ne_of h h3 (by intro z; cases z))
theorem Go.ins {C dx : Addr} {fs : List (Str × V)} (g : Go cA eA H H1) (M : Mach K H m cA eA w) (h : H p = some (.ins C dx fs)) : H1 p = some (.ins C dx fs) := by
  obtain ⟨kvs, h2, _⟩ := M.cs
  obtain ⟨es, h3, _⟩ := M.en
  exact g _ _ h (ne_of h h2 (by intro z; cases z)) (ne_of h h3 (by intro z; cases z))
theorem Go.lst {xs : List V} (g : Go cA eA H H1) (M : Mach K H m cA eA w) (h : H p = some (.lst xs)) (hp : p ≠ eA) : H1 p = some (.lst xs) := by
  obtain ⟨kvs, h2, _⟩ := M.cs
  exact g _ _ h (ne_of h h2 (by intro z; cases z)) hp
theorem Go.free (g : Go cA eA H H1) (M : Mach K H m cA eA w) (M1 : Mach K H1 m cA eA w) (h : H1 p = none) : H p = none := by
  cases q : H p with
  | none => rfl
  | some o =>
    have h1 := M1.nc h
    have h2 := M1.ne h
    rw [g _ _ q h1 h2] at h
    cases h
/-! ### a number -/
structure IsBig (K : PySem.W.Frag) (H : Hp) (x : Addr) (w : Nat) (n : Int) : Prop where
  ex : ∃ (dx t : Addr) (l : List Int), H x = some (.ins (cB K) dx (bfl w n.sign t)) ∧ H t = some (.tup (l.map V.int)) ∧ Ar.Row ((2 : Int) ^ w) l (n.natAbs : Int)
theorem IsBig.go (B : IsBig K H x w n) (g : Go cA eA H H1) (M : Mach K H m cA eA w') : IsBig K H1 x w n := by
  obtain ⟨dx, t, l, h1, h2, h3⟩ := B
  exact ⟨dx, t, l, g.ins M h1, g.tup M h2, h3⟩
theorem IsBig.same (B : IsBig K H x w n) (s : Same H H1) : IsBig K H1 x w n := by
  obtain ⟨dx, t, l, h1, h2, h3⟩ := B
  exact ⟨dx, t, l, s _ _ h1, s _ _ h2, h3⟩
end
/-! ### sizes -/
def Sm (n : Int) : Prop := n.natAbs < 2 ^ 4000
theorem pw8 {w : Nat} (h : 8 ≤ w) : (256 : Int) ≤ 2 ^ w := by
  have e : w = 8 + (w - 8) := by omega
  rw [e, Int.pow_add]
  have : (1 : Int) ≤ 2 ^ (w - 8) := Int.pow_pos (by decide)
  have e2 : (2 : Int) ^ 8 = 256 := by decide
  rw [e2]
  omega
theorem pw30 {w : Nat} (h : w ≤ 30) : (2 : Int) ^ w ≤ 1073741824 := by
  have e2 : (1073741824 : Int) = 2 ^ w * 2 ^ (30 - w) := by
    rw [← Int.pow_add, show w + (30 - w) = 30 by omega]
    decide
  rw [e2]
  have h1 : (1 : Int) ≤ 2 ^ (30 - w) := Int.pow_pos (by decide)
  have h2 : (0 : Int) < 2 ^ w := Int.pow_pos (by decide)
  have := Int.mul_le_mul_of_nonneg_left h1 (Int.le_of_lt h2)
  omega
theorem pwp (w : Nat) : (0 : Int) < 2 ^ w := Int.pow_pos (by decide)
theorem pw_pw (w k : Nat) : ((2 : Int) ^ w) ^ k = 2 ^ (w * k) := Int.pow_mul.symm
theorem pw_mono {a b : Nat} (h : a ≤ b) : (2 : Int) ^ a ≤ 2 ^ b := by
  rw [show b = a + (b - a) by omega, Int.pow_add]
  have h1 : (1 : Int) ≤ 2 ^ (b - a) := Int.pow_pos (by decide)
  have h2 : (0 : Int) < 2 ^ a := Int.pow_pos (by decide)
  have := Int.mul_le_mul_of_nonneg_left h1 (Int.le_of_lt h2)
  omega
theorem pw_lt_inv {a b : Nat} (h : (2 : Int) ^ a < 2 ^ b) : a < b := by
  apply Nat.lt_of_not_le
  intro hle
  have := pw_mono hle
  omega
theorem abs_lt {n : Int} {k : Nat} (h : n.natAbs < 2 ^ k) : (n.natAbs : Int) < 2 ^ k := by
  have : ((2 ^ k : Nat) : Int) = 2 ^ k := by simp
  omega
theorem abs_lt' {n : Int} {k : Nat} (h : (n.natAbs : Int) < 2 ^ k) : n.natAbs < 2 ^ k := by
  have : ((2 ^ k : Nat) : Int) = 2 ^ k := by simp
  omega
/-- a small number has few digits -/
theorem row_len {w : Nat} {l : List Int} {n : Int} (h8 : 8 ≤ w) (R : Ar.Row ((2 : Int) ^ w) l n) {k : Nat} (h : n < 2 ^ k) : l.length * 8 ≤ k + 7 := by
  cases l with
  | nil => simp
  | cons d r =>
    have hB : (0 : Int) < 2 ^ w := pwp w
    have h1 := R.ge hB (by simp)
    rw [pw_pw] at h1
    have h2 : (2 : Int) ^ (w * ((d :: r).length - 1)) < 2 ^ k := by omega
    have h3 := pw_lt_inv h2
    have h4 : 8 * ((d :: r).length - 1) ≤ w * ((d :: r).length - 1) := Nat.mul_le_mul_right _ h8
    have h5 : (d :: r).length = r.length + 1 := rfl
    omega
end Tb
set_option Elab.async false
set_option linter.all false
set_option maxRecDepth 100000
set_option maxHeartbeats 4000000
/-! small defs: arguments, machines -/
namespace Tb
open PySem PySem.Spec PyProof.Rows L2
variable {P : Program} {wd : World} {K : PySem.W.Frag} {mg : Str → Option Value} {base : Heap}
def spIsInteger : Sp := fun vs H Q _ => ∃ n : Int, vs = [.int n] ∧ Q (.bl true) H
theorem ok_is_integer (T : Tx K mg) : Fn P wd K mg base 1 "is_integer" pIsInteger spIsInteger := by
  refine T.d_is_integer.ok scIsInteger (fun vs H Q E h => ?_) (fun f cdv A outer s H vs Q E hr h => ?_)
  · obtain ⟨n, rfl, _⟩ := h
    rfl
  · obtain ⟨n, rfl, q⟩ := h
    refine ⟨_, (pss_one (ps_ret (pe_and (pe_callB call_isi (by rfl) T.z_isinstance (by decide +kernel) (pa_cons (pv 0) (pa_cons (pe_bltn (by rfl) T.z_int (by decide +kernel) (v := .ty "int") rfl) pa_nil))) (pe_one (pe_not (pe_callB call_isi (by rfl) T.z_isinstance (by decide +kernel) (pa_cons (pv 0) (pa_cons (pe_bltn (by rfl) T.z_bool (by decide +kernel) (v := .ty "bool") rfl) pa_nil)))))))), ?_⟩
    refine ⟨_, rfl, .int n, .ty "int", .type "int", .type "int", true, rfl, .ty _, .base (.int n), kit_ty (by decide +kernel), true, rfl, iteT ?_⟩
    exact ⟨_, rfl, .int n, .ty "bool", .type "int", .type "bool", false, rfl, .ty _, .base (.int n), kit_ty (by decide +kernel), false, rfl, q⟩
def spIsBetween : Sp := fun vs H Q _ => ∃ n lo hi : Int, vs = [.int n, .int lo, .int hi] ∧ (lo ≤ n ∧ n ≤ hi) ∧ Q (.bl true) H
theorem ok_is_between (T : Tx K mg) : Fn P wd K mg base 2 "is_between" pIsBetween spIsBetween := by
  have G_is_integer : Fn P wd K mg base 1 "is_integer" pIsInteger spIsInteger := ok_is_integer T
  refine T.d_is_between.ok scIsBetween (fun vs H Q E h => ?_) (fun f cdv A outer s H vs Q E hr h => ?_)
  · obtain ⟨n, lo, hi, rfl, _⟩ := h
    rfl
  · obtain ⟨n, lo, hi, rfl, ⟨h1, h2⟩, q⟩ := h
    refine ⟨_, (pss_one (ps_ret (pe_and (pe_fn G_is_integer (hr.mono (by decide)) (pa_cons (pv 0) pa_nil)) (pe_one (pe_chain op_le op_le (pv 1) (pv 0) (pv 2)))))), ?_⟩
    refine ⟨_, rfl, n, rfl, true, rfl, iteT ?_⟩
    refine ⟨_, rfl, _, rfl, _, _, rfl, rfl, _, rfl, ?_⟩
    rw [decide_eq_true h1]
    refine iteT ?_
    refine ⟨_, rfl, _, _, rfl, rfl, ?_⟩
    show Q (.bl (decide (n ≤ hi))) H
    rw [decide_eq_true h2]
    exact q
def spCheckInteger : Sp := fun vs H Q _ => ∃ (a : V) (n : Int), vs = [a, .int n] ∧ Q .non H
theorem ok_check_integer (T : Tx K mg) : Fn P wd K mg base 2 "check_integer" pCheckInteger spCheckInteger := by
  have G_is_integer : Fn P wd K mg base 1 "is_integer" pIsInteger spIsInteger := ok_is_integer T
  refine T.d_check_integer.ok scCheckInteger (fun vs H Q E h => ?_) (fun f cdv A outer s H vs Q E hr h => ?_)
  · obtain ⟨a, n, rfl, _⟩ := h
    rfl
  · obtain ⟨a, n, rfl, q⟩ := h
    refine ⟨_, (pss_one (ps_if (pt_not (pt_val (pe_fn G_is_integer (hr.mono (by decide)) (pa_cons (pv 1) pa_nil)))) pss_never pss_nil)), ?_⟩
    refine ⟨_, rfl, n, rfl, true, rfl, iteF ?_⟩
    exact q
/-! ### machines -/
def spMCount (K : PySem.W.Frag) : Sp := fun vs H Q _ => ∃ (m cA eA : Addr) (w : Nat) (x : Str) (k : Int), vs = [.ref m, .str x, .int k] ∧ Mach K H m cA eA w ∧ x ∈ wordsS ∧ ∀ H', Go cA eA H H' → Mach K H' m cA eA w → Q .non H'
theorem ok_count (T : Tx K mg) : Mt P wd K mg base 1 (cM K) "count" pMCount (spMCount K) := by
  obtain ⟨f, fd, me, F, hb⟩ := T.m_count
  refine ⟨T.clM, f, fd, me, hb, F.ok scMCount (fun vs H Q E h => ?_) (fun cdv A outer s H vs Q E hr h => ?_)⟩
  · obtain ⟨m, cA, eA, w, x, k, rfl, _⟩ := h
    rfl
  · obtain ⟨m, cA, eA, w, x, k, rfl, M, hx, q⟩ := h
    obtain ⟨⟨dx, lim, h1⟩, ⟨kvs, h2, h3, h4⟩, ⟨es, h5, h6⟩, h7, h8⟩ := id M
    obtain ⟨i, hi⟩ := h4 x hx
    refine ⟨_, PSs.nox (pss_one (ps_dput (hu_of hr) (pe_fld (pv 0) rfl) (pv 1) (pe_op op_add (pe_dget (hu_of hr) (pe_fld (pv 0) rfl) (pv 1) (fun _ _ => rfl)) (pv 2)) rfl)), ?_⟩
    refine ⟨_, rfl, m, _, dx, _, _, rfl, h1, T.clM, T.nM_counts, mf_counts, _, rfl, cA, .int i, rfl, .inl ⟨kvs, Sum.inr x, .inl h2, rfl, hi.symm⟩, _, rfl, i, k, rfl, rfl, ?_⟩
    refine ⟨_, rfl, m, _, dx, _, _, rfl, h1, T.clM, T.nM_counts, mf_counts, _, rfl, cA, _, rfl, DPut.k (k := Sum.inr x) h2 (szlt (by omega)), ?_⟩
    refine q _ (fun b o e hb _ => by rw [upd_ne hb]; exact e) ⟨⟨dx, lim, by rw [upd_ne M.mc]; exact h1⟩, ⟨_, upd_same, ?_, fun y hy => ?_⟩, ⟨es, by rw [upd_ne M.ce.symm]; exact h5, h6⟩, h7, h8⟩
    · have e : (kvs.any fun kv => decide (kv.1 = (Sum.inr x : Key))) = true := by
        rw [valV_any, hi]
        rfl
      unfold putK
      rw [if_pos e, List.length_map]
      exact h3
    · rw [valV_put]
      by_cases e : (Sum.inr y : Key) = Sum.inr x
      · rw [if_pos e]
        exact ⟨_, rfl⟩
      · rw [if_neg e]
        exact h4 y hy
def spMEnter (K : PySem.W.Frag) : Sp := fun vs H Q _ => ∃ (m cA eA : Addr) (w : Nat) (x : V) (k j : Int), vs = [.ref m, x, .int k, .int j] ∧ Mach K H m cA eA w ∧ ∀ H', Go cA eA H H' → Mach K H' m cA eA w → Q .non H'
theorem ok_enter (T : Tx K mg) : Mt P wd K mg base 1 (cM K) "enter" pMEnter (spMEnter K) := by
  obtain ⟨f, fd, me, F, hb⟩ := T.m_enter
  refine ⟨T.clM, f, fd, me, hb, F.ok scMEnter (fun vs H Q E h => ?_) (fun cdv A outer s H vs Q E hr h => ?_)⟩
  · obtain ⟨m, cA, eA, w, x, k, j, rfl, _⟩ := h
    rfl
  · obtain ⟨m, cA, eA, w, x, k, j, rfl, M, q⟩ := h
    obtain ⟨⟨dx, lim, h1⟩, ⟨kvs, h2, h3, h4⟩, ⟨es, h5, h6⟩, h7, h8⟩ := id M
    refine ⟨_, PSs.nox (pss_one (ps_if (pt_cmpR op_lt (pe_callB call_len_seq (by rfl) T.z_len PySem.boot_len (pa_cons (pe_fld (pv 0) rfl) pa_nil)) (C8.pe_gc (by rfl) T.c_MOST_WALK) (nomark _)) (pss_one (ps_expr (pe_bm PySem.F.plainAttrs_list PySem.F.slot_list_append PySem.F.type_list_append mt_append (pe_fld (pv 0) rfl) (pa_cons (pe_tup (pa_cons (pv 1) (pa_cons (pv 2) (pa_cons (pv 3) pa_nil)))) pa_nil)))) pss_nil)), ?_⟩
    refine ⟨_, rfl, m, _, dx, _, _, rfl, h1, T.clM, T.nM_entered, mf_entered, eA, _, rfl, .inl (SqL.of h5), _, _, rfl, rfl, _, rfl, ite2 (fun hl => ?_) (fun _ => ?_)⟩
    · have hl : (es.length : Int) < 1000 := of_decide_eq_true hl
      refine ⟨_, rfl, m, _, dx, _, _, rfl, h1, T.clM, T.nM_entered, mf_entered, .inl ⟨rfl, _, SqL.of h5⟩, _, rfl, _, rfl, _, rfl, by show 3 ≤ sizeLine; decide, fun p np => ?_⟩
      refine ⟨eA, es, .ref p, rfl, rfl, by rw [upd_ne (ne_of_none h5 np)]; exact h5, szlt (by omega), ?_⟩
      have g1 : Go cA eA H (upd H p (.tup [x, .int k, .int j])) := Go.refl.new np
      have M1 : Mach K (upd H p (.tup [x, .int k, .int j])) m cA eA w := M.same (Same.new np)
      obtain ⟨⟨dx', lim', k1⟩, ⟨kvs', k2, k3, k4⟩, _, _, _⟩ := id M1
      refine q _ (fun b o e hb he => by rw [upd_ne he]; exact g1 b o e hb he) ⟨⟨dx', lim', by rw [upd_ne M.me]; exact k1⟩, ⟨kvs', by rw [upd_ne M.ce]; exact k2, k3, k4⟩, ⟨_, upd_same, ?_⟩, h7, h8⟩
      rw [List.length_append]
      show es.length + 1 ≤ 1000
      omega
    · exact q H Go.refl M
def spMParts (K : PySem.W.Frag) : Sp := fun vs H Q _ => ∃ (m cA eA : Addr) (w : Nat), vs = [.ref m] ∧ Mach K H m cA eA w ∧ ∀ (lim : Int) (p : Addr), H p = none → Q (.ref p) (upd H p (.tup [.int (w : Int), .int lim]))
theorem ok_parts (T : Tx K mg) : Mt P wd K mg base 1 (cM K) "parts" pMParts (spMParts K) := by
  obtain ⟨f, fd, me, F, hb⟩ := T.m_parts
  refine ⟨T.clM, f, fd, me, hb, F.ok scMParts (fun vs H Q E h => ?_) (fun cdv A outer s H vs Q E hr h => ?_)⟩
  · obtain ⟨m, cA, eA, w, rfl, _⟩ := h
    rfl
  · obtain ⟨m, cA, eA, w, rfl, M, q⟩ := h
    obtain ⟨dx, lim, h1⟩ := M.ob
    refine ⟨_, PSs.nox (pss_one (ps_ret (pe_tup (pa_cons (pe_fld (pv 0) rfl) (pa_cons (pe_fld (pv 0) rfl) pa_nil))))), ?_⟩
    refine ⟨_, rfl, m, _, dx, _, _, rfl, h1, T.clM, T.nM_width, mf_width, _, rfl, m, _, dx, _, _, rfl, h1, T.clM, T.nM_limit_of_rows, mf_limit, by show 2 ≤ sizeLine; decide, fun p np => ?_⟩
    exact q lim p np
def spCheckMachine (K : PySem.W.Frag) : Sp := fun vs H Q _ => ∃ (m cA eA : Addr) (w : Nat), vs = [.ref m] ∧ Mach K H m cA eA w ∧ Q .non H
theorem insTy {x C dx : Addr} {fs : List (Str × V)} {H : Hp} (c : C8.InsC K C) (h : H x = some (.ins C dx fs)) : TyX K H (.ref x) (.ref C) := .base (.ins h c.cl c.ha c.hn c.htk c.hm)
theorem ok_check_machine (T : Tx K mg) : Fn P wd K mg base 1 "check_machine" pCheckMachine (spCheckMachine K) := by
  refine T.d_check_machine.ok scCheckMachine (fun vs H Q E h => ?_) (fun f cdv A outer s H vs Q E hr h => ?_)
  · obtain ⟨m, cA, eA, w, rfl, _⟩ := h
    rfl
  · obtain ⟨m, cA, eA, w, rfl, M, q⟩ := h
    obtain ⟨dx, lim, h1⟩ := M.ob
    refine ⟨_, (pss_one (ps_if (pt_not (pt_val (pe_callB call_isi (by rfl) T.z_isinstance (by decide +kernel) (pa_cons (pv 0) (pa_cons (C8.pe_gc (by rfl) T.v_Machine) pa_nil))))) pss_never pss_nil)), ?_⟩
    refine ⟨_, rfl, .ref m, .ref (cM K), .ref (cM K), .ref (cM K), true, rfl, .own _, insTy T.isM h1, T.isM.me, true, rfl, iteF ?_⟩
    exact q
def spBInit (K : PySem.W.Frag) : Sp := fun vs H Q _ => ∃ (p dx t : Addr) (w : Nat) (n : Int), vs = [.ref p, .int (w : Int), .int n, .ref t] ∧ H p = some (.ins (cB K) dx []) ∧
  ∀ H', (∀ b o, H b = some o → b ≠ p → H' b = some o) → H' p = some (.ins (cB K) dx (bfl w n t)) → Q .non H'
theorem ok_BInit (T : Tx K mg) : Mkd P wd K mg base 1 (cB K) "Big" pBInit [] (spBInit K) := by
  obtain ⟨f, fd, mk, hm, F, hb⟩ := T.i_Big
  refine ⟨f, fd, [], mk, hm, hb, .nil, F.ok scBInit (fun vs H Q E h => ?_) (fun cdv A outer s H vs Q E hr h => ?_)⟩
  · obtain ⟨p, dx, t, w, n, rfl, _⟩ := h
    rfl
  · obtain ⟨p, dx, t, w, n, rfl, hp, q⟩ := h
    refine ⟨_, PSs.nox (pss_cons (ps_fld (pv 0) (pv 1) rfl)
        (pss_cons (ps_fld (pv 0) (pv 2) rfl)
        (pss_one (ps_fld (pv 0) (pv 3) rfl)))), ?_⟩
    refine ⟨_, rfl, _, rfl, p, _, dx, [], rfl, hp, T.clB, T.nB_width, (by show 0 < 1000; decide), ?_⟩
    refine ⟨_, rfl, _, rfl, p, _, dx, _, rfl, upd_same, T.clB, T.nB_side, (by show 1 < 1000; decide), ?_⟩
    refine ⟨_, rfl, _, rfl, p, _, dx, _, rfl, upd_same, T.clB, T.nB_row, ?_, ?_⟩
    · refine Nat.lt_of_le_of_lt (show _ ≤ 2 from ?_) (by decide)
      show (putF "side" (V.int n) ([("width", V.int (w : Int))] : List (Str × V))).length ≤ 2
      unfold putF
      split <;> simp [putF]
    · refine q _ (fun b o e hb => by rw [upd_ne hb, upd_ne hb, upd_ne hb]; exact e) ?_
      rw [upd_same]
      have e1 : putF "side" (V.int n) (putF "width" (V.int (w : Int)) []) = ([("width", V.int (w : Int)), ("side", V.int n)] : List (Str × V)) := by
        show (if ("width" : Str) = "side" then _ else (("width" : Str), V.int (w : Int)) :: ([("side", V.int n)] : List (Str × V))) = _
        rw [if_neg (by decide +kernel)]
      have e2 : putF "row" (V.ref t) ([("width", V.int (w : Int)), ("side", V.int n)] : List (Str × V)) = bfl w n t := by
        show (if ("width" : Str) = "row" then _ else (("width" : Str), V.int (w : Int)) :: (if ("side" : Str) = "row" then _ else (("side" : Str), V.int n) :: ([("row", V.ref t)] : List (Str × V)))) = _
        rw [if_neg (by decide +kernel), if_neg (by decide +kernel)]
        rfl
      rw [e1, e2]
end Tb
set_option Elab.async false
set_option linter.all false
set_option maxRecDepth 100000
set_option maxHeartbeats 4000000
/-! numbers: made, digits_of, big_of, value_of .. -/
namespace Tb
open PySem PySem.Spec PyProof.Rows L2
variable {P : Program} {wd : World} {K : PySem.W.Frag} {mg : Str → Option Value} {base : Heap}
theorem cut_take (xs : List V) (s : Nat) (h : s ≤ xs.length) : cutV xs none (some (s : Int)) = xs.take s := by
  unfold cutV
  rw [show HT.sIx xs.length xs.length (some (s : Int)) = min s xs.length from HT.sIx_nat xs.length xs.length s, HT.sIx_none, Nat.min_eq_left h, Nat.sub_zero, List.drop_zero]
theorem sgn1 {d v : Int} (h : d = 1 ∨ d = -1) (hv : 0 < v) : (d * v).sign = d ∧ ((d * v).natAbs : Int) = v := by
  rcases h with rfl | rfl
  · rw [Int.one_mul]
    exact ⟨Int.sign_eq_one_of_pos hv, by omega⟩
  · rw [show -1 * v = -v by omega]
    exact ⟨Int.sign_eq_neg_one_of_neg (by omega), by omega⟩
theorem words_ok : (∀ x ∈ wordsS, valV (mergeK [] (wordsS.map fun x => ((Sum.inr x : Key), V.int 0))) (Sum.inr x : Key) = some (.int 0)) ∧ (mergeK [] (wordsS.map fun x => ((Sum.inr x : Key), V.int 0))).length ≤ 10 := by decide +kernel
theorem mapint_get {l : List Int} {i : Nat} {d : Int} (h : l[i]? = some d) : (l.map V.int)[i]? = some (.int d) := by
  rw [List.getElem?_map, h]
  rfl
theorem mapint_of {l : List Int} {i : Nat} {x : V} (h : (l.map V.int)[i]? = some x) : ∃ d, l[i]? = some d ∧ x = .int d := by
  rw [List.getElem?_map] at h
  cases e : l[i]? with
  | none =>
    rw [e] at h
    cases h
  | some d =>
    rw [e] at h
    exact ⟨d, rfl, (Option.some.inj h).symm⟩
/-! ### Machine.__init__ -/
def spMInit (K : PySem.W.Frag) : Sp := fun vs H Q _ => ∃ (p dx : Addr) (w : Nat) (cut : Int), vs = [.ref p, .int (w : Int), .int cut] ∧ H p = some (.ins (cM K) dx []) ∧ 8 ≤ w ∧ w ≤ 30 ∧ 2 ≤ cut ∧ cut ≤ 1000 ∧
  ∀ H' cA eA, (∀ b o, H b = some o → b ≠ p → H' b = some o) → Mach K H' p cA eA w → H cA = none → H eA = none → Q .non H'
theorem body_MInit (T : Tx K mg) {f : Addr} {fd : FuncData} (F : FunD K "__init__" "Machine.__init__" (defArgs sMInit) (defBody sMInit) (defScope sMInit) [.int 30, .int 70] [] f fd) : FnOk P wd K mg base CX0 3 f fd pMInit (spMInit K) := by
  have G_is_between : Fn P wd K mg base 2 "is_between" pIsBetween spIsBetween := ok_is_between T
  refine F.ok scMInit (fun vs H Q E h => ?_) (fun cdv A outer s H vs Q E hr h => ?_)
  · obtain ⟨p, dx, w, cut, rfl, _⟩ := h
    rfl
  · obtain ⟨p, dx, w, cut, rfl, hp, h8, h30, hc2, hc1, q⟩ := h
    refine ⟨_, PSs.nox (pss_cons (ps_if (pt_not (pt_val (pe_fn G_is_between (hr.mono (by decide)) (pa_cons (pv 1) (pa_cons (C8.pe_gc (by rfl) T.c_LEAST_BITS) (pa_cons (C8.pe_gc (by rfl) T.c_MOST_BITS) pa_nil)))))) pss_never pss_nil)
        (pss_cons (ps_if (pt_not (pt_val (pe_fn G_is_between (hr.mono (by decide)) (pa_cons (pv 2) (pa_cons pe_int (pa_cons (C8.pe_gc (by rfl) T.c_MOST_CUTOFF) pa_nil)))))) pss_never pss_nil)
        (pss_cons (ps_fld (pv 0) (pv 1) rfl)
        (pss_cons (ps_fld (pv 0) (pv 2) rfl)
        (pss_cons (ps_fld (pv 0) (pe_op op_oneShl pe_int (pv 1)) rfl)
        (pss_cons (ps_fld (pv 0) (pe_callTy (call_dictP rfl) (by rfl) T.z_dict (by decide +kernel) (pa_cons (pe_lc (own := [("word", 3)]) (g := gName 3) (tt := tYes) rfl scMInit.nd (pi_tup (C8.pe_gc (by rfl) T.c_WORDS)) (blkOk_by (own := [("word", 3)]) (N := nMInit) (sc := defScope sMInit) (by decide +kernel)) (fun _ _ _ _ _ => pg_name (i := 3) scMInit.nd rfl (Or.inl rfl)) (fun _ _ _ _ _ => pts_nil) (fun _ _ _ _ _ => (pe_tup (pa_cons (pv 3) (pa_cons pe_int pa_nil))))) pa_nil)) rfl)
        (pss_one (ps_fld (pv 0) (pe_lst pa_nil) rfl)))))))), ?_⟩
    refine ⟨_, rfl, _, _, _, rfl, ⟨by omega, by omega⟩, true, rfl, iteF ?_⟩
    refine ⟨_, rfl, _, _, _, rfl, ⟨hc2, hc1⟩, true, rfl, iteF ?_⟩
    refine ⟨_, rfl, _, rfl, p, _, dx, [], rfl, hp, T.clM, T.nM_width, (by show 0 < 1000; decide), ?_⟩
    refine ⟨_, rfl, _, rfl, p, _, dx, _, rfl, upd_same, T.clM, T.nM_limit_of_rows, (by show 1 < 1000; decide), ?_⟩
    have e1 : putF "limit_of_rows" (V.int cut) (putF "width" (V.int (w : Int)) []) = ([("width", V.int (w : Int)), ("limit_of_rows", V.int cut)] : List (Str × V)) := by
      show (if ("width" : Str) = "limit_of_rows" then _ else (("width" : Str), V.int (w : Int)) :: ([("limit_of_rows", V.int cut)] : List (Str × V))) = _
      rw [if_neg (by decide +kernel)]
    refine ⟨_, rfl, w, rfl, rfl, by omega, _, rfl, p, _, dx, _, rfl, upd_same, T.clM, T.nM_base, (by rw [e1]; show 2 < 1000; decide), ?_⟩
    have e2 : putF "base" (V.int (2 ^ w)) (putF "limit_of_rows" (V.int cut) (putF "width" (V.int (w : Int)) [])) = ([("width", V.int (w : Int)), ("limit_of_rows", V.int cut), ("base", V.int (2 ^ w))] : List (Str × V)) := by
      rw [e1]
      show (if ("width" : Str) = "base" then _ else (("width" : Str), V.int (w : Int)) :: (if ("limit_of_rows" : Str) = "base" then _ else (("limit_of_rows" : Str), V.int cut) :: ([("base", V.int (2 ^ w))] : List (Str × V)))) = _
      rw [if_neg (by decide +kernel), if_neg (by decide +kernel)]
    rw [upd_upd, upd_upd, e2]
    -- the list of pairs
    generalize hH1 : upd H p (HO.ins (cM K) dx [("width", V.int (w : Int)), ("limit_of_rows", V.int cut), ("base", V.int (2 ^ w))]) = H1
    have k1 : ∀ b o, H b = some o → b ≠ p → H1 b = some o := fun b o e hb => by rw [← hH1, upd_ne hb]; exact e
    have k2 : H1 p = some (.ins (cM K) dx [("width", V.int (w : Int)), ("limit_of_rows", V.int cut), ("base", V.int (2 ^ w))]) := by rw [← hH1, upd_same]
    refine ⟨_, rfl, ⟨_, T.words _⟩, fun D nD => ?_⟩
    refine lc_tup (xs := wordsS.map V.str) (fun i H' => ∃ ps : List Addr, Same H1 H' ∧ H' D = some (.lst (ps.map V.ref)) ∧ ps.length = i ∧ Paired (fun a kv => SqT K H' a [kV kv.1, kv.2]) ps ((wordsS.take i).map fun x => ((Sum.inr x : Key), V.int 0)))
      ⟨[], Same.new nD, upd_same, rfl, .nil⟩ (fun i H' _ _ => T.words _) ?_ ?_
    · rintro i x H' hx ⟨ps, s1, hD, hl, hp'⟩
      obtain ⟨y, hy, rfl⟩ : ∃ y, wordsS[i]? = some y ∧ x = .str y := by
        rw [List.getElem?_map] at hx
        cases e : wordsS[i]? with
        | none => rw [e] at hx; cases hx
        | some y => rw [e] at hx; exact ⟨y, rfl, (Option.some.inj hx).symm⟩
      have hi : i < 10 := (List.getElem?_eq_some_iff.mp hy).1
      refine ⟨rfl, ?_⟩
      refine ⟨_, rfl, by show 2 ≤ sizeLine; decide, fun t nt => ?_⟩
      have ntD : t ≠ D := (ne_of_none hD nt).symm
      refine ⟨ps.map V.ref, by rw [upd_ne ntD.symm]; exact hD, by rw [List.length_map]; exact szlt (by omega), ps ++ [t], Same.mut (s1.trans (Same.new nt)) nD, ?_, by rw [List.length_append, hl]; rfl, ?_⟩
      · rw [upd_same, List.map_append]
        rfl
      · rw [List.take_add_one, hy]
        show Paired _ (ps ++ [t]) ((wordsS.take i ++ [y]).map _)
        rw [List.map_append]
        have app : ∀ {l1 : List Addr} {l2 : List (Key × V)}, Paired (fun a kv => SqT K H' a [kV kv.1, kv.2]) l1 l2 → Paired (fun a kv => SqT K (upd (upd H' t (HO.tup [V.str y, V.int 0])) D (.lst (ps.map V.ref ++ [V.ref t]))) a [kV kv.1, kv.2]) (l1 ++ [t]) (l2 ++ [((Sum.inr y : Key), V.int 0)]) := by
          intro l1 l2 r
          induction r with
          | nil => exact .cons (SqT.of (by rw [upd_ne ntD, upd_same]; rfl)) .nil
          | cons a b ih =>
            refine .cons ?_ ih
            rcases a with (a | ⟨o, a⟩) | a
            · refine .inl (.inl ?_)
              rw [upd_ne (ne_of a hD (by intro z; cases z)), upd_ne (ne_of_none a nt)]
              exact a
            · refine .inl (.inr ⟨o, ?_⟩)
              rw [upd_ne (ne_of a hD (by intro z; cases z)), upd_ne (ne_of_none a nt)]
              exact a
            · exact .inr a
        exact app hp'
    · rintro H' ⟨ps, s1, hD, hl, hp'⟩
      rw [List.length_map, List.take_length] at hp'
      refine ⟨D, ps, _, rfl, SqL.of hD, hp', fun c nc => ?_⟩
      have s2 : Same H1 (upd H' c (.dK (mergeK [] (wordsS.map fun x => ((Sum.inr x : Key), V.int 0))))) := s1.trans (Same.new nc)
      refine ⟨_, rfl, p, _, dx, _, rfl, s2 _ _ k2, T.clM, T.nM_counts, (by show 3 < 1000; decide), ?_⟩
      have nc1 : H1 c = none := s1.free nc
      have npc : p ≠ c := ne_of_none k2 nc1
      have e3 : putF "counts" (V.ref c) ([("width", V.int (w : Int)), ("limit_of_rows", V.int cut), ("base", V.int (2 ^ w))] : List (Str × V)) = ([("width", V.int (w : Int)), ("limit_of_rows", V.int cut), ("base", V.int (2 ^ w)), ("counts", V.ref c)] : List (Str × V)) := by
        show (if ("width" : Str) = "counts" then _ else (("width" : Str), V.int (w : Int)) :: (if ("limit_of_rows" : Str) = "counts" then _ else (("limit_of_rows" : Str), V.int cut) :: (if ("base" : Str) = "counts" then _ else (("base" : Str), V.int (2 ^ w)) :: ([("counts", V.ref c)] : List (Str × V))))) = _
        rw [if_neg (by decide +kernel), if_neg (by decide +kernel), if_neg (by decide +kernel)]
      rw [e3]
      refine ⟨Nat.zero_le _, fun e ne => ?_⟩
      have npe : p ≠ e := fun z => by
        rw [z, upd_same] at ne
        cases ne
      refine ⟨_, rfl, p, _, dx, _, rfl, (by rw [upd_ne npe, upd_same]), T.clM, T.nM_entered, (by show 4 < 1000; decide), ?_⟩
      have e4 : putF "entered" (V.ref e) ([("width", V.int (w : Int)), ("limit_of_rows", V.int cut), ("base", V.int (2 ^ w)), ("counts", V.ref c)] : List (Str × V)) = mfl w cut c e := by
        show (if ("width" : Str) = "entered" then _ else (("width" : Str), V.int (w : Int)) :: (if ("limit_of_rows" : Str) = "entered" then _ else (("limit_of_rows" : Str), V.int cut) :: (if ("base" : Str) = "entered" then _ else (("base" : Str), V.int (2 ^ w)) :: (if ("counts" : Str) = "entered" then _ else (("counts" : Str), V.ref c) :: ([("entered", V.ref e)] : List (Str × V)))))) = _
        rw [if_neg (by decide +kernel), if_neg (by decide +kernel), if_neg (by decide +kernel), if_neg (by decide +kernel)]
        rfl
      rw [e4]
      have ne1 : (upd H' c (.dK (mergeK [] (wordsS.map fun x => ((Sum.inr x : Key), V.int 0))))) e = none := by
        rw [upd_ne npe.symm] at ne
        exact ne
      have nce : c ≠ e := fun z => by
        rw [z, upd_same] at ne1
        cases ne1
      have none0 : ∀ b, H1 b = none → H b = none := fun b hb => by
        cases z : H b with
        | none => rfl
        | some o =>
          by_cases hbp : b = p
          · subst hbp
            rw [k2] at hb
            cases hb
          · rw [k1 b o z hbp] at hb
            cases hb
      refine q _ c e (fun b o hb hbp => ?_) ⟨⟨dx, cut, upd_same⟩, ⟨_, by rw [upd_ne npc.symm, upd_ne nce, upd_ne npc.symm, upd_same], words_ok.2, fun x hx => ⟨0, words_ok.1 x hx⟩⟩, ⟨[], by rw [upd_ne npe.symm, upd_same], Nat.zero_le _⟩, h8, h30⟩ (none0 c nc1) (none0 e (s2.free ne1))
      have hb1 : H1 b = some o := k1 b o hb hbp
      rw [upd_ne hbp, upd_ne (ne_of_none (s2 b o hb1) ne1), upd_ne hbp]
      exact s2 b o hb1
/-! ### made -/
def spMade (K : PySem.W.Frag) : Sp := fun vs H Q _ => ∃ (m cA eA p : Addr) (w : Nat) (sd : Int) (l : List Int), vs = [.ref m, .int sd, .ref p] ∧ Mach K H m cA eA w ∧ H p = some (.lst (l.map V.int)) ∧ Ar.Dg ((2 : Int) ^ w) l ∧ l.length ≤ 10000 ∧
  (sd = 1 ∨ sd = -1 ∨ sd = 0 ∧ Ar.val ((2 : Int) ^ w) l = 0) ∧ ∀ H' x, Same H H' → IsBig K H' x w (sd * Ar.val ((2 : Int) ^ w) l) → Q (.ref x) H'
theorem ok_made (T : Tx K mg) : Fn P wd K mg base 3 "made" pMade (spMade K) := by
  have G_Big : Mkd P wd K mg base 1 (cB K) "Big" pBInit [] (spBInit K) := ok_BInit T
  refine T.d_made.ok scMade (fun vs H Q E h => ?_) (fun f cdv A outer s H vs Q E hr h => ?_)
  · obtain ⟨m, cA, eA, p, w, sd, l, rfl, _⟩ := h
    rfl
  · obtain ⟨m, cA, eA, p, w, sd, l, rfl, M, hp, hg, hl, hsd, q⟩ := h
    obtain ⟨dm, lim, h1⟩ := M.ob
    refine ⟨_, (pss_cons (ps_set (i := 3) scMade.nd rfl (.inl rfl) (pe_callB call_len_seq (by rfl) T.z_len PySem.boot_len (pa_cons (pv 2) pa_nil)))
        (C8.pss_cut (ps_while PassesOwn.never (PW.pt (pw_and (pt_cmpR op_gt (pv 3) pe_int (nomark _)) (pw_and1 (pt_cmpR op_eq (pe_ix ix_list (pv 2) (pe_op op_sub (pv 3) pe_int) (fun _ _ => rfl)) pe_int (nomark _))))) (pss_one (ps_set (i := 3) scMade.nd rfl (.inl rfl) (pe_op op_sub (pv 3) pe_int))))
        (pss_one (ps_ret (pe_mk G_Big (hr.mono (by decide)) (pa_cons (pe_fld (pv 0) rfl) (pa_cons (pe_ifExp (pt_cmpR op_gt (pv 3) pe_int (nomark _)) (pv 1) pe_int) (pa_cons (pe_callTy call_tuple_of (by rfl) T.z_tuple (by decide +kernel) (pa_cons (pe_slice sl_list (pv 2) po_none (po_some (pv 3))) pa_nil)) pa_nil)))))))), ?_⟩
    refine ⟨_, rfl, p, _, rfl, .inl (SqL.of hp), ?_⟩
    refine ⟨fun σ H' => ∃ n : Nat, σ = [some (.ref m), some (.int sd), some (.ref p), some (.int (n : Int))] ∧ H' = H ∧ n ≤ l.length ∧ (∀ i, n ≤ i → i < l.length → l[i]? = some 0) ∧ ∀ d, 0 < n → l[n - 1]? = some d → d ≠ 0, ?_, ?_⟩
    · refine ⟨fun n σ H' => σ = [some (.ref m), some (.int sd), some (.ref p), some (.int (n : Int))] ∧ H' = H ∧ n ≤ l.length ∧ ∀ i, n ≤ i → i < l.length → l[i]? = some 0,
        ⟨l.length, by rw [List.length_map]; rfl, rfl, Nat.le_refl _, fun i h1 h2 => absurd h2 (by omega)⟩, ?_⟩
      rintro n σ H' ⟨rfl, rfl, hs, hz⟩
      refine ⟨_, rfl, _, _, rfl, rfl, _, rfl, ite2 (fun h0 => ?_) (fun h0 => ?_)⟩
      · have h0 : (0 : Int) < n := of_decide_eq_true h0
        have hn : n - 1 < l.length := by omega
        have hd := List.getElem?_eq_getElem hn
        refine ⟨_, rfl, _, rfl, _, _, rfl, rfl, p, _, _, .int l[n - 1], rfl, rfl, SqL.of hp, at_of (j := n - 1) (by omega) (mapint_get hd), rfl, _, rfl, ite2 (fun hz0 => ?_) (fun hz0 => ?_)⟩
        · have hz1 : l[n - 1] = 0 := V.int.inj (of_decide_eq_true hz0)
          refine ⟨fun σ2 H2 => σ2 = [some (.ref m), some (.int sd), some (.ref p), some (.int ((n - 1 : Nat) : Int))] ∧ H2 = H', fun σ2 H2 h => ?_, ?_⟩
          · obtain ⟨rfl, rfl⟩ := h
            refine ⟨n - 1, by omega, rfl, rfl, by omega, fun i h2 h3 => ?_⟩
            by_cases e : i = n - 1
            · subst e
              rw [hd, hz1]
            · exact hz i (by omega) h3
          · refine ⟨_, rfl, _, _, rfl, rfl, ?_, rfl⟩
            rw [show ((n - 1 : Nat) : Int) = (n : Int) - 1 by omega]
            rfl
        · refine ⟨n, rfl, rfl, hs, hz, fun d _ e z => hz0 ?_⟩
          rw [hd] at e
          rw [Option.some.inj e, z]
          exact decide_eq_true rfl
      · have h0 : ¬ (0 : Int) < n := fun z => h0 (decide_eq_true z)
        exact ⟨n, rfl, rfl, hs, hz, fun d hn => absurd hn (by omega)⟩
    · rintro σ H' ⟨n, rfl, rfl, hs, hz, ht⟩
      have R := Ar.Row.strip hg hs hz ht
      have hB := pwp w
      have key : ((if 0 < n then sd else 0 : Int) = (sd * Ar.val ((2 : Int) ^ w) l).sign) ∧ (((sd * Ar.val ((2 : Int) ^ w) l).natAbs : Nat) : Int) = Ar.val ((2 : Int) ^ w) l := by
        by_cases hn : n = 0
        · have hv : Ar.val ((2 : Int) ^ w) l = 0 := by
            rw [← R.vl, hn]
            rfl
          rw [hv, Int.mul_zero, if_neg (by omega)]
          exact ⟨rfl, rfl⟩
        · have hne : l.take n ≠ [] := fun z => by
            have := congrArg List.length z
            rw [List.length_take, Nat.min_eq_left hs] at this
            exact hn this
          have hv : 0 < Ar.val ((2 : Int) ^ w) l := by
            have h0 := R.nn hB
            have h1 : Ar.val ((2 : Int) ^ w) l ≠ 0 := fun z => hne ((R.nil_iff hB).mpr z)
            omega
          rw [if_pos (by omega)]
          rcases hsd with h | h | ⟨_, h⟩
          · have := sgn1 (.inl h) hv
            exact ⟨this.1.symm, this.2⟩
          · have := sgn1 (.inr h) hv
            exact ⟨this.1.symm, this.2⟩
          · omega
      refine ⟨_, rfl, m, _, dm, _, _, rfl, h1, T.clM, T.nM_width, mf_width, _, rfl, _, _, rfl, rfl, _, rfl, ite2 (fun h0 => ⟨_, rfl, ?_⟩) (fun h0 => ?_)⟩
      all_goals
        refine ⟨_, rfl, _, rfl, _, rfl, p, _, rfl, SqL.of hp, fun c nc => ⟨c, _, rfl, .inl ⟨SqL.of upd_same, fun t nt => fun x dx nx ndx nex => ?_⟩⟩⟩
        rw [cut_take _ n (by rw [List.length_map]; exact hs), ← List.map_take] at nt nx ndx ⊢
        refine ⟨x, dx, t, w, _, rfl, upd_same, fun H2 kp hx => ⟨rfl, ?_⟩⟩
        have s1 : Same H' (upd (upd H' c (.lst ((l.take n).map V.int))) t (.tup ((l.take n).map V.int))) := (Same.new nc).trans (Same.new nt)
        have s2 : Same (upd (upd H' c (.lst ((l.take n).map V.int))) t (.tup ((l.take n).map V.int))) H2 := fun b o e => by
          refine kp b o ?_ (ne_of_none e nx)
          rw [upd_ne (ne_of_none e nx), upd_ne (ne_of_none e ndx)]
          exact e
        refine q H2 x (s1.trans s2) ⟨dx, t, l.take n, ?_, s2 _ _ upd_same, ?_⟩
        · rw [hx, ← key.1]
          first
            | rw [if_pos (by have := of_decide_eq_true h0; omega)]
            | rw [if_neg (fun z => h0 (decide_eq_true (by omega)))]
        · rw [key.2]
          exact R
end Tb
set_option Elab.async false
set_option linter.all false
set_option maxRecDepth 100000
set_option maxHeartbeats 4000000
/-! numbers: digits_of, big_of, value_of .. -/
namespace Tb
open PySem PySem.Spec PyProof.Rows L2
variable {P : Program} {wd : World} {K : PySem.W.Frag} {mg : Str → Option Value} {base : Heap}
theorem Sm.lt {n : Int} (h : Sm n) : (n.natAbs : Int) < 2 ^ 4000 := abs_lt h
theorem Sm.of {n : Int} (h : (n.natAbs : Int) < 2 ^ 4000) : Sm n := abs_lt' h
/-! ### digits_of -/
def spDigitsOf (K : PySem.W.Frag) : Sp := fun vs H Q _ => ∃ (m cA eA : Addr) (w : Nat) (n : Int), vs = [.ref m, .int n] ∧ Mach K H m cA eA w ∧ 0 ≤ n ∧ Sm n ∧ ∀ H' p l, Same H H' → H p = none → H' p = some (.lst (l.map V.int)) → Ar.Row ((2 : Int) ^ w) l n → Q (.ref p) H'
theorem ok_digits_of (T : Tx K mg) : Fn P wd K mg base 1 "digits_of" pDigitsOf (spDigitsOf K) := by
  refine T.d_digits_of.ok scDigitsOf (fun vs H Q E h => ?_) (fun f cdv A outer s H vs Q E hr h => ?_)
  · obtain ⟨m, cA, eA, w, n, rfl, _⟩ := h
    rfl
  · obtain ⟨m, cA, eA, w, n, rfl, M, hn, hs, q⟩ := h
    obtain ⟨dm, lim, h1⟩ := M.ob
    have hB := pwp w
    have hB2 := pw8 M.w8
    refine ⟨_, (pss_cons (ps_set (i := 2) scDigitsOf.nd rfl (.inl rfl) (pe_lst pa_nil))
        (pss_cons (ps_while PassesOwn.never (pt_cmpR op_gt (pv 1) pe_int (nomark _)) (pss_cons (ps_expr (pe_bm PySem.F.plainAttrs_list PySem.F.slot_list_append PySem.F.type_list_append mt_append (pv 2) (pa_cons (pe_op op_mod (pv 1) (pe_fld (pv 0) rfl)) pa_nil)))
        (pss_one (ps_set (i := 1) scDigitsOf.nd rfl (.inl rfl) (pe_op op_shrN (pv 1) (pe_fld (pv 0) rfl))))))
        (pss_one (ps_ret (pv 2))))), ?_⟩
    refine ⟨Nat.zero_le _, fun p np => ?_⟩
    refine ⟨fun k σ H' => ∃ (c : Int) (l : List Int), k = c.toNat ∧ σ = [some (.ref m), some (.int c), some (.ref p)] ∧ Same H H' ∧ H' p = some (.lst (l.map V.int)) ∧ 0 ≤ c ∧ Ar.Dg ((2 : Int) ^ w) l ∧ Ar.val ((2 : Int) ^ w) l + ((2 : Int) ^ w) ^ l.length * c = n ∧ (c = 0 → ∀ d, l[l.length - 1]? = some d → d ≠ 0),
      ⟨n.toNat, n, [], rfl, rfl, Same.new np, upd_same, hn, Ar.Dg.nil, by simp [Ar.val], fun _ d e => by simp at e⟩, ?_⟩
    rintro k σ H' ⟨c, l, rfl, rfl, s1, hp, hc, hg, hv, ht⟩
    refine ⟨_, rfl, _, _, rfl, rfl, _, rfl, ite2 (fun h0 => ?_) (fun h0 => ?_)⟩
    · have h0 : 0 < c := of_decide_eq_true h0
      have hcd : c / 2 ^ w < c := Int.ediv_lt_of_lt_mul hB (by
        have := Int.mul_le_mul_of_nonneg_left hB2 hc
        omega)
      have hc1 : 0 ≤ c / 2 ^ w := Int.ediv_nonneg hc (Int.le_of_lt hB)
      refine ⟨fun σ2 H2 => ∃ l2 : List Int, σ2 = [some (.ref m), some (.int (c / 2 ^ w)), some (.ref p)] ∧ Same H H2 ∧ H2 p = some (.lst (l2.map V.int)) ∧ Ar.Dg ((2 : Int) ^ w) l2 ∧ Ar.val ((2 : Int) ^ w) l2 + ((2 : Int) ^ w) ^ l2.length * (c / 2 ^ w) = n ∧ (c / 2 ^ w = 0 → ∀ d, l2[l2.length - 1]? = some d → d ≠ 0), fun σ2 H2 h => ?_, ?_⟩
      · obtain ⟨l2, e, z1, z2, z3, z4, z5⟩ := h
        exact ⟨_, by omega, _, l2, rfl, e, z1, z2, hc1, z3, z4, z5⟩
      · have hlen : l.length ≤ 1000 := by
          have v0 := Ar.val_nn hB hg
          have p0 := Ar.pw_pos hB l.length
          have a1 : ((2 : Int) ^ w) ^ l.length * 1 ≤ ((2 : Int) ^ w) ^ l.length * c := Int.mul_le_mul_of_nonneg_left h0 (Int.le_of_lt p0)
          have a2 : ((2 : Int) ^ w) ^ l.length < 2 ^ 4000 := by
            have := hs.lt
            omega
          rw [pw_pw] at a2
          have a3 := pw_lt_inv a2
          have a4 : 8 * l.length ≤ w * l.length := Nat.mul_le_mul_right _ M.w8
          omega
        have g1 := s1 _ _ h1
        refine ⟨_, rfl, .inl ⟨rfl, _, SqL.of hp⟩, _, rfl, _, rfl, m, _, dm, _, _, rfl, g1, T.clM, T.nM_base, mf_base, _, _, rfl, rfl, hB, p, _, _, rfl, rfl, hp, by rw [List.length_map]; exact szlt (by omega), ?_⟩
        have s2 : Same H (upd H' p (.lst (l.map V.int ++ [.int (c % 2 ^ w)]))) := Same.mut s1 np
        refine ⟨_, rfl, _, rfl, m, _, dm, _, _, rfl, s2 _ _ h1, T.clM, T.nM_width, mf_width, _, w, rfl, rfl, ?_⟩
        have m0 := Int.emod_nonneg c (Int.ne_of_gt hB)
        have m1 := Int.emod_lt_of_pos c hB
        have em := Int.emod_add_mul_ediv c (2 ^ w)
        refine ⟨l ++ [c % 2 ^ w], rfl, s2, by rw [upd_same, List.map_append]; rfl, hg.snoc ⟨m0, m1⟩, ?_, fun hz d e => ?_⟩
        · rw [Ar.val_snoc, List.length_append]
          show _ + ((2 : Int) ^ w) ^ (l.length + 1) * (c / 2 ^ w) = n
          rw [Ar.pw_succ]
          have e2 : ((2 : Int) ^ w) ^ l.length * 2 ^ w * (c / 2 ^ w) = ((2 : Int) ^ w) ^ l.length * (2 ^ w * (c / 2 ^ w)) := Int.mul_assoc ..
          have e3 : ((2 : Int) ^ w) ^ l.length * c = ((2 : Int) ^ w) ^ l.length * (c % 2 ^ w) + ((2 : Int) ^ w) ^ l.length * (2 ^ w * (c / 2 ^ w)) := by
            rw [← Int.mul_add, em]
          rw [e2, Int.mul_comm (c % 2 ^ w)]
          omega
        · rw [List.length_append, List.getElem?_append_right (by simp)] at e
          have e2 : ([c % 2 ^ w] : List Int)[l.length + [c % 2 ^ w].length - 1 - l.length]? = some d := e
          rw [show l.length + [c % 2 ^ w].length - 1 - l.length = 0 by simp] at e2
          have e3 : c % 2 ^ w = d := Option.some.inj e2
          rw [hz, Int.mul_zero, Int.add_zero] at em
          omega
    · have h0 : ¬ (0 : Int) < c := fun z => h0 (decide_eq_true z)
      have hc0 : c = 0 := by omega
      subst hc0
      rw [Int.mul_zero, Int.add_zero] at hv
      exact ⟨_, rfl, q H' p l s1 np hp ⟨hg, hv, ht rfl⟩⟩
def spBigOf (K : PySem.W.Frag) : Sp := fun vs H Q _ => ∃ (m cA eA : Addr) (w : Nat) (n : Int), vs = [.ref m, .int n] ∧ Mach K H m cA eA w ∧ Sm n ∧ ∀ H' x, Same H H' → IsBig K H' x w n → Q (.ref x) H'
theorem ok_big_of (T : Tx K mg) : Fn P wd K mg base 4 "big_of" pBigOf (spBigOf K) := by
  have G_digits_of : Fn P wd K mg base 1 "digits_of" pDigitsOf (spDigitsOf K) := ok_digits_of T
  have G_made : Fn P wd K mg base 3 "made" pMade (spMade K) := ok_made T
  refine T.d_big_of.ok scBigOf (fun vs H Q E h => ?_) (fun f cdv A outer s H vs Q E hr h => ?_)
  · obtain ⟨m, cA, eA, w, n, rfl, _⟩ := h
    rfl
  · obtain ⟨m, cA, eA, w, n, rfl, M, hs, q⟩ := h
    have hB := pwp w
    refine ⟨_, (pss_one (ps_ret (pe_fn G_made (hr.mono (by decide)) (pa_cons (pv 0) (pa_cons (pe_ifExp (pt_cmpR op_lt (pv 1) pe_int (nomark _)) (pe_un un_neg pe_int) pe_int) (pa_cons (pe_fn G_digits_of (hr.mono (by decide)) (pa_cons (pv 0) (pa_cons (pe_callB call_abs (by rfl) T.z_abs (by decide +kernel) (pa_cons (pv 1) pa_nil)) pa_nil))) pa_nil)))))), ?_⟩
    refine ⟨_, rfl, _, rfl, _, _, rfl, rfl, _, rfl, ite2 (fun h0 => ⟨1, rfl, ?_⟩) (fun h0 => ?_)⟩
    all_goals
      refine ⟨_, rfl, _, rfl, n, rfl, m, cA, eA, w, (n.natAbs : Int), by rw [show (if n < 0 then -n else n) = (n.natAbs : Int) by split <;> omega]; rfl, M, by omega, by unfold Sm; rw [Int.natAbs_natCast]; exact hs, fun H' p l s1 np hp R => ?_⟩
      have hlen := row_len M.w8 R hs.lt
      refine ⟨m, cA, eA, p, w, _, l, rfl, M.same s1, hp, R.dg, by omega, by simp, fun H2 x s2 B => q H2 x (s1.trans s2) ?_⟩
      rw [R.vl] at B
      first
        | (have h0 : n < 0 := of_decide_eq_true h0
           rw [show -1 * (n.natAbs : Int) = n by omega] at B
           exact B)
        | (have h0 : ¬ n < 0 := fun z => h0 (decide_eq_true z)
           rw [show 1 * (n.natAbs : Int) = n by omega] at B
           exact B)
/-! ### value_of -/
def spValueOf (K : PySem.W.Frag) : Sp := fun vs H Q _ => ∃ (x : Addr) (w : Nat) (n : Int), vs = [.ref x] ∧ IsBig K H x w n ∧ 8 ≤ w ∧ w ≤ 30 ∧ Sm n ∧ ∀ H', Same H H' → Q (.int n) H'
theorem ok_value_of (T : Tx K mg) : Fn P wd K mg base 1 "value_of" pValueOf (spValueOf K) := by
  refine T.d_value_of.ok scValueOf (fun vs H Q E h => ?_) (fun f cdv A outer s H vs Q E hr h => ?_)
  · obtain ⟨x, w, n, rfl, _⟩ := h
    rfl
  · obtain ⟨x, w, n, rfl, B, h8, h30, hs, q⟩ := h
    obtain ⟨dx, t, l, hx, ht, R⟩ := B.ex
    have hB := pwp w
    have hlen := row_len h8 R hs.lt
    refine ⟨_, (pss_cons (ps_set (i := 1) scValueOf.nd rfl (.inl rfl) pe_int)
        (pss_cons (ps_for PassesOwn.never rfl (pi_tup (pe_revT (pe_fld (pv 0) rfl))) (pg_name (i := 2) scValueOf.nd rfl (.inl rfl)) (pss_one (ps_set (i := 1) scValueOf.nd rfl (.inl rfl) (pe_op op_orL (pe_op op_shlN (pv 1) (pe_fld (pv 0) rfl)) (pv 2)))))
        (pss_one (ps_ret (pe_op op_mul (pe_fld (pv 0) rfl) (pv 1)))))), ?_⟩
    refine ⟨_, rfl, x, _, dx, _, _, rfl, hx, T.clB, T.nB_row, bf_row, t, _, rfl, SqT.of ht, fun p np => ?_⟩
    have s1 : Same H (upd H p (.tup (l.map V.int).reverse)) := Same.new np
    refine ⟨p, rfl, ⟨_, SqT.of upd_same⟩, for_tup (xs := (l.map V.int).reverse) (fun i σ H' => H' = upd H p (.tup (l.map V.int).reverse) ∧ ∃ d, σ = [some (.ref x), some (.int (Ar.val ((2 : Int) ^ w) (l.drop (l.length - i)))), d]) ⟨rfl, none, by rw [Nat.sub_zero, List.drop_length]; rfl⟩ (fun i σ H' _ h => by rw [h.1]; exact SqT.of upd_same) ?_ ?_⟩
    · rintro i y σ H' hy ⟨rfl, d, rfl⟩
      have hi : i < l.length := by
        have := (List.getElem?_eq_some_iff.mp hy).1
        rw [List.length_reverse, List.length_map] at this
        exact this
      rw [List.getElem?_reverse (by rw [List.length_map]; exact hi), List.length_map] at hy
      obtain ⟨c, hc, rfl⟩ := mapint_of hy
      have hc1 : l[l.length - (i + 1)]? = some c := by rw [← hc]; congr 1; omega
      have hv := Ar.val_drop_succ (B := (2 : Int) ^ w) hc1
      rw [show l.length - (i + 1) + 1 = l.length - i by omega] at hv
      have hd := R.dg.drop (l.length - i)
      have v0 := Ar.val_nn hB hd
      have v1 := Ar.val_lt hB hd
      have hcd := R.dg.at hc
      refine ⟨_, rfl, _, rfl, x, _, dx, _, _, rfl, s1 _ _ hx, T.clB, T.nB_width, bf_width, _, w, rfl, rfl, shl_ok (n := 30000) ?_ (by omega), _, rfl, _, _, w, rfl, rfl, ⟨v0, hcd.1, hcd.2⟩, rfl, some (.int c), ?_⟩
      · apply abs_lt'
        have a1 : ((2 : Int) ^ w) ^ (l.drop (l.length - i)).length ≤ 2 ^ 30000 := by
          rw [pw_pw]
          apply pw_mono
          rw [List.length_drop]
          have : w * (l.length - (l.length - i)) ≤ 30 * 1000 := Nat.mul_le_mul h30 (by omega)
          omega
        omega
      · rw [hv, Int.mul_comm ((2 : Int) ^ w), Int.add_comm]
        rfl
    · rintro σ H' ⟨rfl, d, rfl⟩
      rw [List.length_reverse, List.length_map, Nat.sub_self, List.drop_zero, R.vl]
      refine ⟨_, rfl, x, _, dx, _, _, rfl, s1 _ _ hx, T.clB, T.nB_side, bf_side, _, rfl, _, _, rfl, rfl, .inl ?_, ?_⟩
      · have : n.sign = 1 ∨ n.sign = -1 ∨ n.sign = 0 := by
          rcases Int.lt_trichotomy n 0 with h | h | h
          · exact .inr (.inl (Int.sign_eq_neg_one_of_neg h))
          · subst h; exact .inr (.inr rfl)
          · exact .inl (Int.sign_eq_one_of_pos h)
        rcases this with h | h | h <;> rw [h] <;> exact ⟨by decide, by decide⟩
      · have e := Int.sign_mul_natAbs n
        show Q (.int (n.sign * (n.natAbs : Int))) _
        rw [e]
        exact q _ s1
/-! ### checks -/
def spCheckBig (K : PySem.W.Frag) : Sp := fun vs H Q _ => ∃ (m cA eA x : Addr) (w : Nat) (a : V) (n : Int), vs = [.ref m, a, .ref x] ∧ Mach K H m cA eA w ∧ IsBig K H x w n ∧ Q .non H
theorem ok_check_big (T : Tx K mg) : Fn P wd K mg base 1 "check_big" pCheckBig (spCheckBig K) := by
  refine T.d_check_big.ok scCheckBig (fun vs H Q E h => ?_) (fun f cdv A outer s H vs Q E hr h => ?_)
  · obtain ⟨m, cA, eA, x, w, a, n, rfl, _⟩ := h
    rfl
  · obtain ⟨m, cA, eA, x, w, a, n, rfl, M, B, q⟩ := h
    obtain ⟨dm, lim, h1⟩ := M.ob
    obtain ⟨dx, t, l, hx, ht, R⟩ := B.ex
    refine ⟨_, (pss_one (ps_if (PW.pt (pw_or (pt_not (pt_val (pe_callB call_isi (by rfl) T.z_isinstance (by decide +kernel) (pa_cons (pv 2) (pa_cons (C8.pe_gc (by rfl) T.v_Big) pa_nil))))) (pw_or1 (pt_cmpR op_ne (pe_fld (pv 2) rfl) (pe_fld (pv 0) rfl) (nomark _))))) pss_never pss_nil)), ?_⟩
    refine ⟨_, rfl, .ref x, .ref (cB K), .ref (cB K), .ref (cB K), true, rfl, .own _, insTy T.isB hx, T.isB.me, true, rfl, iteF ?_⟩
    refine ⟨_, rfl, x, _, dx, _, _, rfl, hx, T.clB, T.nB_width, bf_width, _, rfl, m, _, dm, _, _, rfl, h1, T.clM, T.nM_width, mf_width, rfl, _, rfl, ?_⟩
    exact iteNS rfl q
def spCheckBigs (K : PySem.W.Frag) : Sp := fun vs H Q _ => ∃ (m cA eA x y : Addr) (w : Nat) (a b : Int), vs = [.ref m, .ref x, .ref y] ∧ Mach K H m cA eA w ∧ IsBig K H x w a ∧ IsBig K H y w b ∧ Q .non H
theorem ok_check_bigs (T : Tx K mg) : Fn P wd K mg base 2 "check_bigs" pCheckBigs (spCheckBigs K) := by
  have G_check_machine : Fn P wd K mg base 1 "check_machine" pCheckMachine (spCheckMachine K) := ok_check_machine T
  have G_check_big : Fn P wd K mg base 1 "check_big" pCheckBig (spCheckBig K) := ok_check_big T
  refine T.d_check_bigs.ok scCheckBigs (fun vs H Q E h => ?_) (fun f cdv A outer s H vs Q E hr h => ?_)
  · obtain ⟨m, cA, eA, x, y, w, a, b, rfl, _⟩ := h
    rfl
  · obtain ⟨m, cA, eA, x, y, w, a, b, rfl, M, B1, B2, q⟩ := h
    refine ⟨_, (pss_cons (ps_expr (pe_fn G_check_machine (hr.mono (by decide)) (pa_cons (pv 0) pa_nil)))
        (pss_cons (ps_expr (pe_fn G_check_big (hr.mono (by decide)) (pa_cons (pv 0) (pa_cons pe_str (pa_cons (pv 1) pa_nil)))))
        (pss_one (ps_expr (pe_fn G_check_big (hr.mono (by decide)) (pa_cons (pv 0) (pa_cons pe_str (pa_cons (pv 2) pa_nil)))))))), ?_⟩
    refine ⟨_, rfl, m, cA, eA, w, rfl, M, ?_⟩
    refine ⟨_, rfl, _, rfl, m, cA, eA, x, w, _, a, rfl, M, B1, ?_⟩
    exact ⟨_, rfl, _, rfl, m, cA, eA, y, w, _, b, rfl, M, B2, q⟩
def spCheckAny (K : PySem.W.Frag) : Sp := fun vs H Q _ => ∃ (x : Addr) (w : Nat) (n : Int), vs = [.ref x] ∧ IsBig K H x w n ∧ Q .non H
theorem ok_check_any (T : Tx K mg) : Fn P wd K mg base 1 "check_any" pCheckAny (spCheckAny K) := by
  refine T.d_check_any.ok scCheckAny (fun vs H Q E h => ?_) (fun f cdv A outer s H vs Q E hr h => ?_)
  · obtain ⟨x, w, n, rfl, _⟩ := h
    rfl
  · obtain ⟨x, w, n, rfl, B, q⟩ := h
    obtain ⟨dx, t, l, hx, ht, R⟩ := B.ex
    refine ⟨_, (pss_one (ps_if (pt_not (pt_val (pe_callB call_isi (by rfl) T.z_isinstance (by decide +kernel) (pa_cons (pv 0) (pa_cons (C8.pe_gc (by rfl) T.v_Big) pa_nil))))) pss_never pss_nil)), ?_⟩
    exact ⟨_, rfl, .ref x, .ref (cB K), .ref (cB K), .ref (cB K), true, rfl, .own _, insTy T.isB hx, T.isB.me, true, rfl, iteF q⟩
/-- at most one digit -/
theorem compact_iff {w : Nat} {l : List Int} {n : Int} (R : Ar.Row ((2 : Int) ^ w) l n) : l.length ≤ 1 ↔ n < 2 ^ w := by
  have hB := pwp w
  constructor
  · intro h
    have h1 := R.lt hB
    match l, h with
    | [], _ =>
      have : n < 1 := by simpa using h1
      omega
    | [d], _ =>
      rw [show [d].length = 1 from rfl, Int.pow_one] at h1
      exact h1
  · intro h
    apply Nat.le_of_not_lt
    intro hlt
    have h1 := R.ge hB (fun z => by subst z; simp at hlt)
    have h2 : ((2 : Int) ^ w) ^ 1 ≤ ((2 : Int) ^ w) ^ (l.length - 1) := by
      rw [pw_pw, pw_pw]
      exact pw_mono (Nat.mul_le_mul_left _ (by omega))
    rw [Int.pow_one] at h2
    omega
def spIsCompact (K : PySem.W.Frag) : Sp := fun vs H Q _ => ∃ (x : Addr) (w : Nat) (n : Int), vs = [.ref x] ∧ IsBig K H x w n ∧ Q (.bl (decide ((n.natAbs : Int) < 2 ^ w))) H
theorem ok_is_compact (T : Tx K mg) : Fn P wd K mg base 1 "is_compact" pIsCompact (spIsCompact K) := by
  refine T.d_is_compact.ok scIsCompact (fun vs H Q E h => ?_) (fun f cdv A outer s H vs Q E hr h => ?_)
  · obtain ⟨x, w, n, rfl, _⟩ := h
    rfl
  · obtain ⟨x, w, n, rfl, B, q⟩ := h
    obtain ⟨dx, t, l, hx, ht, R⟩ := B.ex
    refine ⟨_, (pss_one (ps_ret (pe_cmpR op_le (pe_callB call_len_seq (by rfl) T.z_len PySem.boot_len (pa_cons (pe_fld (pv 0) rfl) pa_nil)) pe_int (nomark _)))), ?_⟩
    refine ⟨_, rfl, x, _, dx, _, _, rfl, hx, T.clB, T.nB_row, bf_row, t, _, rfl, .inr (SqT.of ht), _, _, rfl, rfl, ?_⟩
    show Q (.bl (decide (((l.map V.int).length : Int) ≤ 1))) H
    have e : decide (((l.map V.int).length : Int) ≤ 1) = decide ((n.natAbs : Int) < 2 ^ w) := by
      rw [List.length_map]
      apply decide_eq_decide.mpr
      rw [← compact_iff R]
      omega
    rw [e]
    exact q
def spBig (K : PySem.W.Frag) : Sp := spBigOf K
theorem ok_big (T : Tx K mg) : Fn P wd K mg base 5 "big" pBig (spBig K) := by
  have G_check_machine : Fn P wd K mg base 1 "check_machine" pCheckMachine (spCheckMachine K) := ok_check_machine T
  have G_check_integer : Fn P wd K mg base 2 "check_integer" pCheckInteger spCheckInteger := ok_check_integer T
  have G_big_of : Fn P wd K mg base 4 "big_of" pBigOf (spBigOf K) := ok_big_of T
  refine T.d_big.ok scBig (fun vs H Q E h => ?_) (fun f cdv A outer s H vs Q E hr h => ?_)
  · obtain ⟨m, cA, eA, w, n, rfl, _⟩ := h
    rfl
  · obtain ⟨m, cA, eA, w, n, rfl, M, hs, q⟩ := h
    refine ⟨_, (pss_cons (ps_expr (pe_fn G_check_machine (hr.mono (by decide)) (pa_cons (pv 0) pa_nil)))
        (pss_cons (ps_expr (pe_fn G_check_integer (hr.mono (by decide)) (pa_cons pe_str (pa_cons (pv 1) pa_nil))))
        (pss_one (ps_ret (pe_fn G_big_of (hr.mono (by decide)) (pa_cons (pv 0) (pa_cons (pv 1) pa_nil))))))), ?_⟩
    refine ⟨_, rfl, m, cA, eA, w, rfl, M, ?_⟩
    refine ⟨_, rfl, _, n, rfl, ?_⟩
    exact ⟨_, rfl, _, rfl, m, cA, eA, w, n, rfl, M, hs, q⟩
theorem ok_plain (T : Tx K mg) : Fn P wd K mg base 2 "plain" pPlain (spValueOf K) := by
  have G_check_any : Fn P wd K mg base 1 "check_any" pCheckAny (spCheckAny K) := ok_check_any T
  have G_value_of : Fn P wd K mg base 1 "value_of" pValueOf (spValueOf K) := ok_value_of T
  refine T.d_plain.ok scPlain (fun vs H Q E h => ?_) (fun f cdv A outer s H vs Q E hr h => ?_)
  · obtain ⟨x, w, n, rfl, _⟩ := h
    rfl
  · obtain ⟨x, w, n, rfl, B, h8, h30, hs, q⟩ := h
    refine ⟨_, (pss_cons (ps_expr (pe_fn G_check_any (hr.mono (by decide)) (pa_cons (pv 0) pa_nil)))
        (pss_one (ps_ret (pe_fn G_value_of (hr.mono (by decide)) (pa_cons (pv 0) pa_nil))))), ?_⟩
    refine ⟨_, rfl, x, w, n, rfl, B, ?_⟩
    exact ⟨_, rfl, x, w, n, rfl, B, h8, h30, hs, q⟩
/-! ### looked_down -/
def spLookedDown (K : PySem.W.Frag) : Sp := fun vs H Q _ => ∃ (m cA eA t u : Addr) (w : Nat) (a b : List Int), vs = [.ref m, .ref t, .ref u] ∧ Mach K H m cA eA w ∧ H t = some (.tup (a.map V.int)) ∧ H u = some (.tup (b.map V.int)) ∧ a.length = b.length ∧
  ∀ H' (j : Int), Go cA eA H H' → Mach K H' m cA eA w → (j = -1 ∧ a = b ∨ ∃ i : Nat, j = i ∧ i < a.length ∧ a.drop (i + 1) = b.drop (i + 1) ∧ a[i]? ≠ b[i]?) → Q (.int j) H'
theorem ok_looked_down (T : Tx K mg) : Fn P wd K mg base 2 "looked_down" pLookedDown (spLookedDown K) := by
  have G_count : Mt P wd K mg base 1 (cM K) "count" pMCount (spMCount K) := ok_count T
  refine T.d_looked_down.ok scLookedDown (fun vs H Q E h => ?_) (fun f cdv A outer s H vs Q E hr h => ?_)
  · obtain ⟨m, cA, eA, t, u, w, a, b, rfl, _⟩ := h
    rfl
  · obtain ⟨m, cA, eA, t, u, w, a, b, rfl, M, ht, hu, hl, q⟩ := h
    obtain ⟨dm, lim, h1⟩ := M.ob
    refine ⟨_, (pss_cons (ps_set (i := 3) scLookedDown.nd rfl (.inl rfl) (pe_op op_sub (pe_callB call_len_seq (by rfl) T.z_len PySem.boot_len (pa_cons (pv 1) pa_nil)) pe_int))
        (C8.pss_cut (ps_while PassesOwn.never (PW.pt (pw_and (pt_cmpR op_ge (pv 3) pe_int (nomark _)) (pw_and1 (pt_cmpR op_eq (pe_ix ix_tup (pv 1) (pv 3) (fun _ _ => rfl)) (pe_ix ix_tup (pv 2) (pv 3) (fun _ _ => rfl)) (nomark _))))) (pss_one (ps_set (i := 3) scLookedDown.nd rfl (.inl rfl) (pe_op op_sub (pv 3) pe_int))))
        (pss_cons (ps_expr (pe_mt G_count (hr.mono (by decide)) (pv 0) (pa_cons pe_str (pa_cons (pe_op op_sub (pe_callB call_len_seq (by rfl) T.z_len PySem.boot_len (pa_cons (pv 1) pa_nil)) (pe_callB (call_max2 rfl) (by rfl) T.z_max (by decide +kernel) (pa_cons (pv 3) (pa_cons pe_int pa_nil)))) pa_nil))))
        (pss_one (ps_ret (pv 3)))))), ?_⟩
    refine ⟨_, rfl, t, _, rfl, .inr (SqT.of ht), _, _, rfl, rfl, ?_⟩
    refine ⟨fun σ H' => ∃ j : Int, σ = [some (.ref m), some (.ref t), some (.ref u), some (.int j)] ∧ H' = H ∧ (j = -1 ∧ a = b ∨ ∃ i : Nat, j = i ∧ i < a.length ∧ a.drop (i + 1) = b.drop (i + 1) ∧ a[i]? ≠ b[i]?), ?_, ?_⟩
    · refine ⟨fun n σ H' => σ = [some (.ref m), some (.ref t), some (.ref u), some (.int ((n : Int) - 1))] ∧ H' = H ∧ n ≤ a.length ∧ a.drop n = b.drop n, ⟨a.length, by rw [List.length_map]; rfl, rfl, Nat.le_refl _, by rw [List.drop_length, hl, List.drop_length]⟩, ?_⟩
      rintro n σ H' ⟨rfl, rfl, hn, hd⟩
      refine ⟨_, rfl, _, _, rfl, rfl, _, rfl, ite2 (fun h0 => ?_) (fun h0 => ?_)⟩
      · have h0 : (0 : Int) ≤ (n : Int) - 1 := of_decide_eq_true h0
        have ia : n - 1 < a.length := by omega
        have ib : n - 1 < b.length := by omega
        have ga := List.getElem?_eq_getElem ia
        have gb := List.getElem?_eq_getElem ib
        refine ⟨_, rfl, _, rfl, t, _, _, .int a[n - 1], rfl, rfl, SqT.of ht, at_of (j := n - 1) (by omega) (mapint_get ga), _, rfl, _, rfl, u, _, _, .int b[n - 1], rfl, rfl, SqT.of hu, at_of (j := n - 1) (by omega) (mapint_get gb), rfl, _, rfl, ite2 (fun hz => ?_) (fun hz => ?_)⟩
        · have hz : a[n - 1] = b[n - 1] := V.int.inj (of_decide_eq_true hz)
          refine ⟨fun σ2 H2 => σ2 = [some (.ref m), some (.ref t), some (.ref u), some (.int (((n - 1 : Nat) : Int) - 1))] ∧ H2 = H', fun σ2 H2 h => ?_, ?_⟩
          · obtain ⟨rfl, rfl⟩ := h
            refine ⟨n - 1, by omega, rfl, rfl, by omega, ?_⟩
            rw [List.drop_eq_getElem_cons ia, List.drop_eq_getElem_cons ib, hz, show n - 1 + 1 = n by omega, hd]
          · refine ⟨_, rfl, _, _, rfl, rfl, ?_, rfl⟩
            rw [show (((n - 1 : Nat) : Int) - 1) = (n : Int) - 1 - 1 by omega]
            rfl
        · refine ⟨_, rfl, rfl, .inr ⟨n - 1, by omega, ia, by rw [show n - 1 + 1 = n by omega]; exact hd, fun z => hz ?_⟩⟩
          rw [ga, gb] at z
          rw [Option.some.inj z]
          exact decide_eq_true rfl
      · have h0 : ¬ (0 : Int) ≤ (n : Int) - 1 := fun z => h0 (decide_eq_true z)
        have e0 : n = 0 := by omega
        subst e0
        exact ⟨_, rfl, rfl, .inl ⟨rfl, hd⟩⟩
    · rintro σ H' ⟨j, rfl, rfl, hj⟩
      refine ⟨_, rfl, m, dm, _, rfl, h1, mf_count, _, rfl, t, _, rfl, .inr (SqT.of ht), _, rfl, _, _, rfl, _, _, rfl, rfl, m, cA, eA, w, "looked", _, rfl, M, by decide +kernel, fun H2 g M2 => ?_⟩
      exact ⟨_, rfl, q H2 j g M2 hj⟩
end Tb
set_option linter.all false
/-! turns of the loops over digits, in plain arithmetic -/
namespace Ar
theorem put_turn {B : Int} {l : List Int} {r v : Int} (r2 : Int) (h : val B l + B ^ l.length * r = v) : val B (l ++ [r2 % B]) + B ^ (l ++ [r2 % B]).length * (r2 / B) = v + B ^ l.length * (r2 - r) := by
  rw [val_snoc, List.length_append]
  show val B l + r2 % B * B ^ l.length + B ^ (l.length + 1) * (r2 / B) = _
  rw [pw_succ, Int.mul_assoc, Int.mul_comm (r2 % B), Int.mul_sub, ← h]
  have e := Int.emod_add_mul_ediv r2 B
  have e2 : B ^ l.length * (r2 % B) + B ^ l.length * (B * (r2 / B)) = B ^ l.length * r2 := by rw [← Int.mul_add, e]
  omega
/-- a digit shifted up: what is left over stays below -/
theorem lift_bound {B C d r : Int} (hB : 0 < B) (hC : 0 < C) (hd : 0 ≤ d ∧ d < B) (hr : 0 ≤ r ∧ r < C) : 0 ≤ d * C + r ∧ 0 ≤ (d * C + r) / B ∧ (d * C + r) / B < C := by
  have h0 : 0 ≤ d * C := Int.mul_nonneg hd.1 (Int.le_of_lt hC)
  have h1 : d * C ≤ (B - 1) * C := Int.mul_le_mul_of_nonneg_right (by omega) (Int.le_of_lt hC)
  have e : (B - 1) * C = B * C - C := by rw [Int.sub_mul, Int.one_mul]
  refine ⟨by omega, Int.ediv_nonneg (by omega) (Int.le_of_lt hB), Int.ediv_lt_of_lt_mul hB ?_⟩
  rw [Int.mul_comm C]
  omega
/-- from the top down -/
theorem low_bound {B C d r : Int} (hB : 0 < B) (hC : 0 < C) (hd : 0 ≤ d ∧ d < B) (hr : 0 ≤ r ∧ r < C) : 0 ≤ r * B + d ∧ 0 ≤ (r * B + d) / C ∧ (r * B + d) / C < B ∧ 0 ≤ (r * B + d) % C ∧ (r * B + d) % C < C := by
  have h0 : 0 ≤ r * B := Int.mul_nonneg hr.1 (Int.le_of_lt hB)
  have h1 : r * B ≤ (C - 1) * B := Int.mul_le_mul_of_nonneg_right (by omega) (Int.le_of_lt hB)
  have e : (C - 1) * B = C * B - B := by rw [Int.sub_mul, Int.one_mul]
  refine ⟨by omega, Int.ediv_nonneg (by omega) (Int.le_of_lt hC), Int.ediv_lt_of_lt_mul hC ?_, Int.emod_nonneg _ (by omega), Int.emod_lt_of_pos _ hC⟩
  rw [Int.mul_comm B]
  omega
/-- f: the digits found, the top one first -/
theorem low_turn {B C : Int} {f : List Int} {r v d : Int} (h : val B f.reverse * C + r = v) : val B (f ++ [(r * B + d) / C]).reverse * C + (r * B + d) % C = d + B * v := by
  rw [List.reverse_append]
  show ((r * B + d) / C + B * val B f.reverse) * C + (r * B + d) % C = _
  have e := Int.emod_add_mul_ediv (r * B + d) C
  rw [Int.add_mul, ← h, Int.mul_add, Int.mul_comm ((r * B + d) / C) C, Int.mul_assoc, Int.mul_comm B r]
  omega
/-- division by one digit, from the top down: the same with any divisor C -/
theorem add_bound {B d e r : Int} (hd : 0 ≤ d ∧ d < B) (he : 0 ≤ e ∧ e < B) (hr : 0 ≤ r ∧ r ≤ 1) : 0 ≤ r + d + e ∧ 0 ≤ (r + d + e) / B ∧ (r + d + e) / B ≤ 1 := by
  have hB : 0 < B := by omega
  refine ⟨by omega, Int.ediv_nonneg (by omega) (by omega), Int.le_of_lt_add_one (Int.ediv_lt_of_lt_mul hB (by omega))⟩
theorem sub_bound {B d e r : Int} (hd : 0 ≤ d ∧ d < B) (he : 0 ≤ e ∧ e < B) (hr : 0 ≤ r ∧ r ≤ 1) : (d - e - r) / B = if d - e - r < 0 then -1 else 0 := by
  have hB : 0 < B := by omega
  by_cases h : d - e - r < 0
  · rw [if_pos h]
    have e1 : d - e - r = (d - e - r + B) + B * (-1) := by omega
    rw [e1, Int.add_mul_ediv_left _ _ (by omega), Int.ediv_eq_zero_of_lt (by omega) (by omega)]
    omega
  · rw [if_neg h]
    exact Int.ediv_eq_zero_of_lt (by omega) (by omega)
theorem take_ge {B : Int} {b : List Int} {i : Nat} (h : b.length ≤ i) : val B (b.take (i + 1)) = val B (b.take i) := by
  rw [List.take_of_length_le (by omega), List.take_of_length_le h]
/-- the end of a subtraction: no borrow is left -/
theorem sub_end {B : Int} (hB : 0 < B) {f : List Int} (hf : Dg B f) {r a b : Int} (hr : r = 0 ∨ r = 1) (h : val B f + B ^ f.length * (-r) = a - b) (hab : b ≤ a) : r = 0 ∧ val B f = a - b := by
  rcases hr with rfl | rfl
  · refine ⟨rfl, ?_⟩
    simpa using h
  · have := val_lt hB hf
    have e : B ^ f.length * (-1) = -(B ^ f.length) := by rw [Int.mul_neg, Int.mul_one]
    rw [e] at h
    omega
/-- the longer one of two rows in normal form is the greater one -/
theorem row_lt_of_len {B : Int} (hB : 1 < B) {a b : List Int} {x y : Int} (ha : Row B a x) (hb : Row B b y) (h : a.length < b.length) : x < y := by
  have hB0 : 0 < B := by omega
  have h1 := ha.lt hB0
  have h2 := hb.ge hB0 (fun z => by subst z; simp at h)
  have mono : B ^ a.length ≤ B ^ (b.length - 1) := by
    have e : b.length - 1 = a.length + (b.length - 1 - a.length) := by omega
    rw [e, pw_add]
    have p1 := pw_pos hB0 a.length
    have p2 : 1 ≤ B ^ (b.length - 1 - a.length) := pw_pos hB0 _
    have := Int.mul_le_mul_of_nonneg_left p2 (Int.le_of_lt p1)
    omega
  omega
/-- rows that differ last at place i -/
theorem cut_at {B : Int} {a b : List Int} {i : Nat} (hl : a.length = b.length) (hi : i < a.length) (hd : a.drop (i + 1) = b.drop (i + 1)) : val B a - val B b = val B (a.take (i + 1)) - val B (b.take (i + 1)) := by
  rw [val_split B a (i + 1) hi, val_split B b (i + 1) (by omega), hd]
  omega
theorem lt_at {B : Int} (hB : 0 < B) {a b : List Int} (ha : Dg B a) (hb : Dg B b) {i : Nat} {x y : Int} (ea : a[i]? = some x) (eb : b[i]? = some y) (h : x < y) : val B (a.take (i + 1)) < val B (b.take (i + 1)) := by
  rw [val_take_succ ea, val_take_succ eb]
  have hi := (List.getElem?_eq_some_iff.mp ea).1
  have h1 := val_lt hB (ha.take i)
  rw [List.length_take, Nat.min_eq_left (Nat.le_of_lt hi)] at h1
  have h2 := val_nn hB (hb.take i)
  have h3 : (x + 1) * B ^ i ≤ y * B ^ i := Int.mul_le_mul_of_nonneg_right (by omega) (Int.le_of_lt (pw_pos hB i))
  rw [Int.add_mul, Int.one_mul] at h3
  omega
end Ar
set_option Elab.async false
set_option linter.all false
set_option maxRecDepth 100000
set_option maxHeartbeats 4000000
/-! shifts of rows, sums -/
namespace Tb
open PySem PySem.Spec PyProof.Rows L2
variable {P : Program} {wd : World} {K : PySem.W.Frag} {mg : Str → Option Value} {base : Heap}
theorem sm_cshl {i : Int} {k n : Nat} (h0 : 0 ≤ i) (h : i < 2 ^ n) (hn : n + k ≤ 134217728) : CShl i (k : Int) := shl_ok (n := n) (abs_lt' (by omega)) hn
def spLifted (K : PySem.W.Frag) : Sp := fun vs H Q _ => ∃ (m cA eA t : Addr) (w c : Nat) (l : List Int), vs = [.ref m, .ref t, .int (c : Int)] ∧ Mach K H m cA eA w ∧ c < w ∧ H t = some (.tup (l.map V.int)) ∧ Ar.Dg ((2 : Int) ^ w) l ∧ l.length ≤ 1000 ∧
  ∀ H' T p (l2 : List Int) (r : Int), Go cA eA H H' → Mach K H' m cA eA w → H p = none → H' p = some (.lst (l2.map V.int)) → Ar.Dg ((2 : Int) ^ w) l2 → l2.length = l.length → 0 ≤ r ∧ r < 2 ^ c →
    Ar.val ((2 : Int) ^ w) l2 + ((2 : Int) ^ w) ^ l2.length * r = Ar.val ((2 : Int) ^ w) l * 2 ^ c → H' T = some (.tup [.ref p, .int r]) → Q (.ref T) H'
theorem ok_lifted (T : Tx K mg) : Fn P wd K mg base 2 "lifted" pLifted (spLifted K) := by
  have G_enter : Mt P wd K mg base 1 (cM K) "enter" pMEnter (spMEnter K) := ok_enter T
  have G_count : Mt P wd K mg base 1 (cM K) "count" pMCount (spMCount K) := ok_count T
  refine T.d_lifted.ok scLifted (fun vs H Q E h => ?_) (fun f cdv A outer s H vs Q E hr h => ?_)
  · obtain ⟨m, cA, eA, t, w, c, l, rfl, _⟩ := h
    rfl
  · obtain ⟨m, cA, eA, t, w, c, l, rfl, M, hc, ht, hg, hl, q⟩ := h
    obtain ⟨dm, lim, h1⟩ := M.ob
    have hB := pwp w
    have hC := pwp c
    have h30 := M.w30
    refine ⟨_, (pss_cons (ps_expr (pe_mt G_enter (hr.mono (by decide)) (pv 0) (pa_cons pe_str (pa_cons (pe_callB call_len_seq (by rfl) T.z_len PySem.boot_len (pa_cons (pv 1) pa_nil)) (pa_cons (pv 2) pa_nil)))))
        (pss_cons (ps_par (i := 3) (j := 4) (by rfl) scLifted.nd rfl rfl (by decide) rfl rfl (pa_cons (pe_lst pa_nil) (pa_cons pe_int pa_nil)) (by rfl))
        (pss_cons (ps_for PassesOwn.never rfl (pi_tup (pv 1)) (pg_name (i := 5) scLifted.nd rfl (.inl rfl)) (pss_cons (ps_set (i := 4) scLifted.nd rfl (.inl rfl) (pe_op op_orR (pv 4) (pe_op op_shlN (pv 5) (pv 2))))
        (pss_cons (ps_expr (pe_bm PySem.F.plainAttrs_list PySem.F.slot_list_append PySem.F.type_list_append mt_append (pv 3) (pa_cons (pe_op op_mod (pv 4) (pe_fld (pv 0) rfl)) pa_nil)))
        (pss_one (ps_set (i := 4) scLifted.nd rfl (.inl rfl) (pe_op op_shrN (pv 4) (pe_fld (pv 0) rfl)))))))
        (pss_cons (ps_expr (pe_mt G_count (hr.mono (by decide)) (pv 0) (pa_cons pe_str (pa_cons (pe_callB call_len_seq (by rfl) T.z_len PySem.boot_len (pa_cons (pv 1) pa_nil)) pa_nil))))
        (pss_one (ps_ret (pe_tup (pa_cons (pv 3) (pa_cons (pv 4) pa_nil))))))))), ?_⟩
    refine ⟨_, rfl, m, dm, _, rfl, h1, mf_enter, _, rfl, t, _, rfl, .inr (SqT.of ht), _, rfl, m, cA, eA, w, _, _, _, rfl, M, fun H1 g1 M1 => ?_⟩
    refine ⟨Nat.zero_le _, fun p np => ⟨_, _, rfl, ?_⟩⟩
    have np0 : H p = none := g1.free M M1 np
    have ht1 := g1.tup M ht
    have s1 : Same H1 (upd H1 p (.lst [])) := Same.new np
    refine ⟨_, rfl, t, rfl, ⟨_, SqT.of (s1 _ _ ht1)⟩, for_tup (xs := l.map V.int) (fun i σ H' => ∃ (l2 : List Int) (r : Int) (d : Option V), σ = [some (.ref m), some (.ref t), some (.int (c : Int)), some (.ref p), some (.int r), d] ∧ Same H1 H' ∧ H' p = some (.lst (l2.map V.int)) ∧ Ar.Dg ((2 : Int) ^ w) l2 ∧ l2.length = i ∧ (0 ≤ r ∧ r < 2 ^ c) ∧ Ar.val ((2 : Int) ^ w) l2 + ((2 : Int) ^ w) ^ l2.length * r = Ar.val ((2 : Int) ^ w) (l.take i) * 2 ^ c)
      ⟨[], 0, none, rfl, s1, upd_same, Ar.Dg.nil, rfl, ⟨Int.le_refl _, hC⟩, by simp [Ar.val]⟩ (fun i σ H' _ ⟨_, _, _, _, s2, _⟩ => SqT.of (s2 _ _ ht1)) ?_ ?_⟩
    · rintro i y σ H' hy ⟨l2, r, d0, rfl, s2, hp, hg2, rfl, hrr, hv⟩
      obtain ⟨d, hd, rfl⟩ := mapint_of hy
      have hi := (List.getElem?_eq_some_iff.mp hd).1
      have dd := hg.at hd
      obtain ⟨b0, b1, b2⟩ := Ar.lift_bound hB hC dd hrr
      have hM := M1.same s2
      obtain ⟨dm2, lim2, h2⟩ := hM.ob
      refine ⟨_, rfl, _, rfl, _, rfl, d, c, rfl, rfl, sm_cshl (n := 30) dd.1 (by have := pw30 h30; omega) (by omega), d, r, c, rfl, rfl, ⟨dd.1, hrr.1, hrr.2⟩, ?_⟩
      refine ⟨_, rfl, .inl ⟨rfl, _, SqL.of hp⟩, _, rfl, _, rfl, m, _, dm2, _, _, rfl, h2, T.clM, T.nM_base, mf_base, _, _, rfl, rfl, hB, p, _, _, rfl, rfl, hp, by rw [List.length_map]; exact szlt (by omega), ?_⟩
      have s3 : Same H1 (upd H' p (.lst (l2.map V.int ++ [.int ((d * 2 ^ c + r) % 2 ^ w)]))) := Same.mut s2 np
      obtain ⟨dm3, lim3, h3⟩ := (M1.same s3).ob
      refine ⟨_, rfl, _, rfl, m, _, dm3, _, _, rfl, h3, T.clM, T.nM_width, mf_width, _, w, rfl, rfl, ?_⟩
      refine ⟨l2 ++ [(d * 2 ^ c + r) % 2 ^ w], _, some (.int d), rfl, s3, by rw [upd_same, List.map_append]; rfl, hg2.snoc ⟨Int.emod_nonneg _ (Int.ne_of_gt hB), Int.emod_lt_of_pos _ hB⟩, by rw [List.length_append]; rfl, ⟨b1, b2⟩, ?_⟩
      rw [Ar.put_turn _ hv, Ar.val_take_succ hd, Int.add_mul, Int.mul_sub, Int.mul_add, Int.mul_right_comm d]
      have e : ((2 : Int) ^ w) ^ l2.length * (d * 2 ^ c) = d * 2 ^ c * ((2 : Int) ^ w) ^ l2.length := Int.mul_comm ..
      omega
    · rintro σ H' ⟨l2, r, d0, rfl, s2, hp, hg2, hl2, hrr, hv⟩
      have hM := M1.same s2
      obtain ⟨dm2, lim2, h2⟩ := hM.ob
      rw [List.length_map] at hl2
      rw [List.length_map, List.take_length] at hv
      refine ⟨_, rfl, m, dm2, _, rfl, h2, mf_count, _, rfl, t, _, rfl, .inr (SqT.of (s2 _ _ ht1)), m, cA, eA, w, "shifted", _, rfl, hM, by decide +kernel, fun H2 g2 M2 => ?_⟩
      have hp2 : H2 p = some (.lst (l2.map V.int)) := g2.lst hM hp (M.ne np0)
      refine ⟨_, rfl, _, rfl, by show 2 ≤ sizeLine; decide, fun T2 nT => ?_⟩
      have s4 : Same H2 (upd H2 T2 (.tup [.ref p, .int r])) := Same.new nT
      exact q _ T2 p l2 r (((g1.same s2).trans g2).same s4) (M2.same s4) np0 (s4 _ _ hp2) hg2 hl2 hrr hv upd_same
def spLowered (K : PySem.W.Frag) : Sp := fun vs H Q _ => ∃ (m cA eA t : Addr) (w c : Nat) (l : List Int), vs = [.ref m, .ref t, .int (c : Int)] ∧ Mach K H m cA eA w ∧ c < w ∧ H t = some (.lst (l.map V.int)) ∧ t ≠ eA ∧ Ar.Dg ((2 : Int) ^ w) l ∧ l.length ≤ 1000 ∧
  ∀ H' T p (l2 : List Int) (r : Int), Go cA eA H H' → Mach K H' m cA eA w → H p = none → H' p = some (.lst (l2.map V.int)) → Ar.Dg ((2 : Int) ^ w) l2 → l2.length = l.length → 0 ≤ r ∧ r < 2 ^ c →
    Ar.val ((2 : Int) ^ w) l2 * 2 ^ c + r = Ar.val ((2 : Int) ^ w) l → H' T = some (.tup [.ref p, .int r]) → Q (.ref T) H'
theorem ok_lowered (T : Tx K mg) : Fn P wd K mg base 2 "lowered" pLowered (spLowered K) := by
  have G_enter : Mt P wd K mg base 1 (cM K) "enter" pMEnter (spMEnter K) := ok_enter T
  have G_count : Mt P wd K mg base 1 (cM K) "count" pMCount (spMCount K) := ok_count T
  refine T.d_lowered.ok scLowered (fun vs H Q E h => ?_) (fun f cdv A outer s H vs Q E hr h => ?_)
  · obtain ⟨m, cA, eA, t, w, c, l, rfl, _⟩ := h
    rfl
  · obtain ⟨m, cA, eA, t, w, c, l, rfl, M, hc, ht, hte, hg, hl, q⟩ := h
    obtain ⟨dm, lim, h1⟩ := M.ob
    have hB := pwp w
    have hC := pwp c
    have h30 := M.w30
    refine ⟨_, (pss_cons (ps_expr (pe_mt G_enter (hr.mono (by decide)) (pv 0) (pa_cons pe_str (pa_cons (pe_callB call_len_seq (by rfl) T.z_len PySem.boot_len (pa_cons (pv 1) pa_nil)) (pa_cons (pv 2) pa_nil)))))
        (pss_cons (ps_par (i := 3) (j := 4) (by rfl) scLowered.nd rfl rfl (by decide) rfl rfl (pa_cons (pe_lst pa_nil) (pa_cons pe_int pa_nil)) (by rfl))
        (pss_cons (ps_for PassesOwn.never rfl (pi_list (pe_revL (pv 1))) (pg_name (i := 5) scLowered.nd rfl (.inl rfl)) (pss_cons (ps_set (i := 4) scLowered.nd rfl (.inl rfl) (pe_op op_orL (pe_op op_shlN (pv 4) (pe_fld (pv 0) rfl)) (pv 5)))
        (pss_cons (ps_expr (pe_bm PySem.F.plainAttrs_list PySem.F.slot_list_append PySem.F.type_list_append mt_append (pv 3) (pa_cons (pe_op op_shrN (pv 4) (pv 2)) pa_nil)))
        (pss_one (ps_set (i := 4) scLowered.nd rfl (.inl rfl) (pe_op op_mod (pv 4) (pe_op op_oneShl pe_int (pv 2))))))))
        (pss_cons (ps_expr (pe_mt G_count (hr.mono (by decide)) (pv 0) (pa_cons pe_str (pa_cons (pe_callB call_len_seq (by rfl) T.z_len PySem.boot_len (pa_cons (pv 1) pa_nil)) pa_nil))))
        (pss_one (ps_ret (pe_tup (pa_cons (pe_revL (pv 3)) (pa_cons (pv 4) pa_nil))))))))), ?_⟩
    refine ⟨_, rfl, m, dm, _, rfl, h1, mf_enter, _, rfl, t, _, rfl, .inl (SqL.of ht), _, rfl, m, cA, eA, w, _, _, _, rfl, M, fun H1 g1 M1 => ?_⟩
    refine ⟨Nat.zero_le _, fun p np => ⟨_, _, rfl, ?_⟩⟩
    have np0 : H p = none := g1.free M M1 np
    have ht1 := g1.lst M ht hte
    have s1 : Same H1 (upd H1 p (.lst [])) := Same.new np
    refine ⟨_, rfl, t, _, rfl, SqL.of (s1 _ _ ht1), fun v nv => ?_⟩
    have nvp : v ≠ p := fun z => by
      rw [z, upd_same] at nv
      cases nv
    have s1v : Same H1 (upd (upd H1 p (.lst [])) v (.lst (l.map V.int).reverse)) := s1.trans (Same.new nv)
    refine ⟨v, rfl, ⟨_, SqL.of upd_same⟩, for_list (xs := (l.map V.int).reverse) (fun i σ H' => ∃ (f : List Int) (r : Int) (d : Option V), σ = [some (.ref m), some (.ref t), some (.int (c : Int)), some (.ref p), some (.int r), d] ∧ Same H1 H' ∧ H' v = some (.lst (l.map V.int).reverse) ∧ H' p = some (.lst (f.map V.int)) ∧ Ar.Dg ((2 : Int) ^ w) f ∧ f.length = i ∧ (0 ≤ r ∧ r < 2 ^ c) ∧ Ar.val ((2 : Int) ^ w) f.reverse * 2 ^ c + r = Ar.val ((2 : Int) ^ w) (l.drop (l.length - i)))
      ⟨[], 0, none, rfl, s1v, upd_same, by rw [upd_ne nvp.symm, upd_same]; rfl, Ar.Dg.nil, rfl, ⟨Int.le_refl _, hC⟩, by rw [Nat.sub_zero, List.drop_length]; simp [Ar.val]⟩ (fun i σ H' _ ⟨_, _, _, _, _, hv, _⟩ => SqL.of hv) ?_ ?_⟩
    · rintro i y σ H' hy ⟨f, r, d0, rfl, s2, hv2, hp, hg2, rfl, hrr, hv⟩
      have hi : f.length < l.length := by
        have := (List.getElem?_eq_some_iff.mp hy).1
        rw [List.length_reverse, List.length_map] at this
        exact this
      rw [List.getElem?_reverse (by rw [List.length_map]; exact hi), List.length_map] at hy
      obtain ⟨d, hd, rfl⟩ := mapint_of hy
      have hd1 : l[l.length - (f.length + 1)]? = some d := by rw [← hd]; congr 1; omega
      have hdv := Ar.val_drop_succ (B := (2 : Int) ^ w) hd1
      rw [show l.length - (f.length + 1) + 1 = l.length - f.length by omega] at hdv
      have dd := hg.at hd
      obtain ⟨b0, b1, b2, b3, b4⟩ := Ar.low_bound hB hC dd hrr
      have hM := M1.same s2
      obtain ⟨dm2, lim2, h2⟩ := hM.ob
      have hr30 : r < 2 ^ 30 := Int.lt_of_lt_of_le hrr.2 (pw_mono (by omega))
      refine ⟨_, rfl, _, rfl, m, _, dm2, _, _, rfl, h2, T.clM, T.nM_width, mf_width, r, w, rfl, rfl, sm_cshl (n := 30) hrr.1 hr30 (by omega), _, rfl, _, _, w, rfl, rfl, ⟨hrr.1, dd.1, dd.2⟩, ?_⟩
      refine ⟨_, rfl, .inl ⟨rfl, _, SqL.of hp⟩, _, rfl, _, rfl, _, c, rfl, rfl, p, _, _, rfl, rfl, hp, by rw [List.length_map]; exact szlt (by omega), ?_⟩
      have s3 : Same H1 (upd H' p (.lst (f.map V.int ++ [.int ((r * 2 ^ w + d) / 2 ^ c)]))) := Same.mut s2 np
      refine ⟨_, rfl, _, rfl, c, rfl, rfl, by omega, _, _, rfl, rfl, hC, ?_⟩
      refine ⟨f ++ [(r * 2 ^ w + d) / 2 ^ c], _, some (.int d), rfl, s3, by rw [upd_ne nvp]; exact hv2, by rw [upd_same, List.map_append]; rfl, hg2.snoc ⟨b1, b2⟩, by rw [List.length_append]; rfl, ⟨b3, b4⟩, ?_⟩
      rw [Ar.low_turn hv, ← hdv]
    · rintro σ H' ⟨f, r, d0, rfl, s2, hv2, hp, hg2, hl2, hrr, hv⟩
      have hM := M1.same s2
      obtain ⟨dm2, lim2, h2⟩ := hM.ob
      rw [List.length_reverse, List.length_map] at hl2
      rw [List.length_reverse, List.length_map, Nat.sub_self, List.drop_zero] at hv
      refine ⟨_, rfl, m, dm2, _, rfl, h2, mf_count, _, rfl, t, _, rfl, .inl (SqL.of (s2 _ _ ht1)), m, cA, eA, w, "shifted", _, rfl, hM, by decide +kernel, fun H2 g2 M2 => ?_⟩
      have hp2 : H2 p = some (.lst (f.map V.int)) := g2.lst hM hp (M.ne np0)
      refine ⟨_, rfl, p, _, rfl, SqL.of hp2, fun p2 np2 => ⟨_, rfl, by show 2 ≤ sizeLine; decide, fun T2 nT => ?_⟩⟩
      rw [← List.map_reverse] at nT ⊢
      have s3 : Same H2 (upd H2 p2 (.lst (f.reverse.map V.int))) := Same.new np2
      have s4 : Same H2 (upd (upd H2 p2 (.lst (f.reverse.map V.int))) T2 (.tup [.ref p2, .int r])) := s3.trans (Same.new nT)
      have g3 : Go cA eA H H2 := (g1.same s2).trans g2
      exact q _ T2 p2 f.reverse r (g3.same s4) (M2.same s4) (g3.free M M2 np2) (Same.new nT _ _ upd_same) hg2.rev (by rw [List.length_reverse]; exact hl2) hrr hv upd_same
/-! ### sums -/
def spAdding (K : PySem.W.Frag) : Sp := fun vs H Q _ => ∃ (m cA eA t u : Addr) (w : Nat) (a b : List Int), vs = [.ref m, .ref t, .ref u] ∧ Mach K H m cA eA w ∧ H t = some (.tup (a.map V.int)) ∧ H u = some (.tup (b.map V.int)) ∧ Ar.Dg ((2 : Int) ^ w) a ∧ Ar.Dg ((2 : Int) ^ w) b ∧ a.length ≤ 1000 ∧ b.length ≤ 1000 ∧
  ∀ H' p (l : List Int), Go cA eA H H' → Mach K H' m cA eA w → H' p = some (.lst (l.map V.int)) → Ar.Dg ((2 : Int) ^ w) l → l.length ≤ 1001 → Ar.val ((2 : Int) ^ w) l = Ar.val ((2 : Int) ^ w) a + Ar.val ((2 : Int) ^ w) b → Q (.ref p) H'
theorem ok_adding (T : Tx K mg) : Fn P wd K mg base 2 "adding" pAdding (spAdding K) := by
  have G_enter : Mt P wd K mg base 1 (cM K) "enter" pMEnter (spMEnter K) := ok_enter T
  have G_count : Mt P wd K mg base 1 (cM K) "count" pMCount (spMCount K) := ok_count T
  refine T.d_adding.ok scAdding (fun vs H Q E h => ?_) (fun f cdv A outer s H vs Q E hr h => ?_)
  · obtain ⟨m, cA, eA, t, u, w, a, b, rfl, _⟩ := h
    rfl
  · obtain ⟨m, cA, eA, t, u, w, a, b, rfl, M, ht, hu, ha, hb, la, lb, q⟩ := h
    obtain ⟨dm, lim, h1⟩ := M.ob
    have hB := pwp w
    refine ⟨_, (pss_cons (ps_expr (pe_mt G_enter (hr.mono (by decide)) (pv 0) (pa_cons pe_str (pa_cons (pe_callB call_len_seq (by rfl) T.z_len PySem.boot_len (pa_cons (pv 1) pa_nil)) (pa_cons (pe_callB call_len_seq (by rfl) T.z_len PySem.boot_len (pa_cons (pv 2) pa_nil)) pa_nil)))))
        (C8.pss_cut (ps_if (pt_cmpR op_lt (pe_callB call_len_seq (by rfl) T.z_len PySem.boot_len (pa_cons (pv 1) pa_nil)) (pe_callB call_len_seq (by rfl) T.z_len PySem.boot_len (pa_cons (pv 2) pa_nil)) (nomark _)) (pss_one (ps_par (i := 1) (j := 2) (by rfl) scAdding.nd rfl rfl (by decide) rfl rfl (pa_cons (pv 2) (pa_cons (pv 1) pa_nil)) (by rfl))) pss_nil)
        (pss_cons (ps_par (i := 3) (j := 4) (by rfl) scAdding.nd rfl rfl (by decide) rfl rfl (pa_cons (pe_lst pa_nil) (pa_cons pe_int pa_nil)) (by rfl))
        (pss_cons (ps_for PassesOwn.never rfl (pi_enumT (by rfl) T.z_enumerate (pa_cons (pv 1) pa_nil)) (pg_tup (by rfl) (pgs_cons (pg_name (i := 5) scAdding.nd rfl (.inl rfl)) (pgs_cons (pg_name (i := 6) scAdding.nd rfl (.inl rfl)) pgs_nil))) (pss_cons (ps_set (i := 4) scAdding.nd rfl (.inl rfl) (pe_op op_add (pe_op op_add (pv 4) (pv 6)) (pe_ifExp (pt_cmpR op_lt (pv 5) (pe_callB call_len_seq (by rfl) T.z_len PySem.boot_len (pa_cons (pv 2) pa_nil)) (nomark _)) (pe_ix ix_tup (pv 2) (pv 5) (fun _ _ => rfl)) pe_int)))
        (pss_cons (ps_expr (pe_bm PySem.F.plainAttrs_list PySem.F.slot_list_append PySem.F.type_list_append mt_append (pv 3) (pa_cons (pe_op op_mod (pv 4) (pe_fld (pv 0) rfl)) pa_nil)))
        (pss_one (ps_set (i := 4) scAdding.nd rfl (.inl rfl) (pe_op op_shrN (pv 4) (pe_fld (pv 0) rfl)))))))
        (pss_cons (ps_expr (pe_mt G_count (hr.mono (by decide)) (pv 0) (pa_cons pe_str (pa_cons (pe_callB call_len_seq (by rfl) T.z_len PySem.boot_len (pa_cons (pv 1) pa_nil)) pa_nil))))
        (pss_one (ps_ret (pe_ifExp (pt_cmpR op_gt (pv 4) pe_int (nomark _)) (pe_op op_cat (pv 3) (pe_lst (pa_cons (pv 4) pa_nil))) (pv 3))))))))), ?_⟩
    refine ⟨_, rfl, m, dm, _, rfl, h1, mf_enter, _, rfl, t, _, rfl, .inr (SqT.of ht), _, rfl, u, _, rfl, .inr (SqT.of hu), m, cA, eA, w, _, _, _, rfl, M, fun H1 g1 M1 => ?_⟩
    refine ⟨fun σ H' => H' = H1 ∧ ∃ (t' u' : Addr) (a' b' : List Int), σ = [some (.ref m), some (.ref t'), some (.ref u'), none, none, none, none] ∧ H1 t' = some (.tup (a'.map V.int)) ∧ H1 u' = some (.tup (b'.map V.int)) ∧ Ar.Dg ((2 : Int) ^ w) a' ∧ Ar.Dg ((2 : Int) ^ w) b' ∧ b'.length ≤ a'.length ∧ a'.length ≤ 1000 ∧ Ar.val ((2 : Int) ^ w) a' + Ar.val ((2 : Int) ^ w) b' = Ar.val ((2 : Int) ^ w) a + Ar.val ((2 : Int) ^ w) b, ?_, ?_⟩
    · have ht1 := g1.tup M ht
      have hu1 := g1.tup M hu
      refine ⟨_, rfl, t, _, rfl, .inr (SqT.of ht1), _, rfl, u, _, rfl, .inr (SqT.of hu1), _, _, rfl, rfl, _, rfl, ite2 (fun hlt => ?_) (fun hlt => ?_)⟩
      · have hlt : ((a.map V.int).length : Int) < ((b.map V.int).length : Int) := of_decide_eq_true hlt
        rw [List.length_map, List.length_map] at hlt
        exact ⟨_, rfl, _, rfl, _, _, rfl, rfl, u, t, b, a, rfl, hu1, ht1, hb, ha, by omega, lb, by omega⟩
      · have hlt : ¬ ((a.map V.int).length : Int) < ((b.map V.int).length : Int) := fun z => hlt (decide_eq_true z)
        rw [List.length_map, List.length_map] at hlt
        exact ⟨rfl, t, u, a, b, rfl, ht1, hu1, ha, hb, by omega, la, rfl⟩
    · rintro σ H' ⟨rfl, t', u', a', b', rfl, ht1, hu1, ha', hb', hlen, la', hsum⟩
      refine ⟨Nat.zero_le _, fun p np => ⟨_, _, rfl, ?_⟩⟩
      have np0 : H p = none := g1.free M M1 np
      have s1 : Same H' (upd H' p (.lst [])) := Same.new np
      refine ⟨_, rfl, t', _, rfl, SqT.of (s1 _ _ ht1), for_it (walk_enumT (a := t') (xs := a'.map V.int)) (fun i σ H2 => ∃ (l : List Int) (c : Int) (d1 d2 : Option V), σ = [some (.ref m), some (.ref t'), some (.ref u'), some (.ref p), some (.int c), d1, d2] ∧ Same H' H2 ∧ H2 p = some (.lst (l.map V.int)) ∧ Ar.Dg ((2 : Int) ^ w) l ∧ l.length = i ∧ (0 ≤ c ∧ c ≤ 1) ∧ Ar.val ((2 : Int) ^ w) l + ((2 : Int) ^ w) ^ l.length * c = Ar.val ((2 : Int) ^ w) (a'.take i) + Ar.val ((2 : Int) ^ w) (b'.take i))
        ⟨[], 0, none, none, rfl, s1, upd_same, Ar.Dg.nil, rfl, ⟨Int.le_refl _, by decide⟩, by simp [Ar.val]⟩ (fun i σ H2 _ ⟨_, _, _, _, _, s2, _⟩ => SqT.of (s2 _ _ ht1)) ?_ ?_⟩
      · rintro i y σ H2 H3 hi ⟨l, c, d1, d2, rfl, s2, hp, hg, rfl, hc, hv⟩ ⟨Tt, x1, x2, rfl, nT, rfl, e1, e2⟩
        have e1 : x1 = .int (l.length : Int) := (Option.some.inj e1).symm
        subst e1
        obtain ⟨d, hd, rfl⟩ := mapint_of e2
        have hil := (List.getElem?_eq_some_iff.mp hd).1
        have dd := ha'.at hd
        have s3 : Same H' (upd H2 Tt (.tup [.int (l.length : Int), .int d])) := s2.trans (Same.new nT)
        have hp3 : (upd H2 Tt (.tup [.int (l.length : Int), .int d])) p = some (.lst (l.map V.int)) := Same.new nT _ _ hp
        have hM := M1.same s3
        obtain ⟨dm2, lim2, h2⟩ := hM.ob
        refine ⟨Tt, _, rfl, SqT.of upd_same, rfl, _, _, rfl, _, _, rfl, rfl, ?_⟩
        have key : ∀ e : Int, (0 ≤ e ∧ e < 2 ^ w) → Ar.val ((2 : Int) ^ w) (b'.take (l.length + 1)) = Ar.val ((2 : Int) ^ w) (b'.take l.length) + e * ((2 : Int) ^ w) ^ l.length →
            (Ar.val ((2 : Int) ^ w) (l ++ [(c + d + e) % 2 ^ w]) + ((2 : Int) ^ w) ^ (l ++ [(c + d + e) % 2 ^ w]).length * ((c + d + e) / 2 ^ w) = Ar.val ((2 : Int) ^ w) (a'.take (l.length + 1)) + Ar.val ((2 : Int) ^ w) (b'.take (l.length + 1))) ∧ 0 ≤ (c + d + e) / 2 ^ w ∧ (c + d + e) / 2 ^ w ≤ 1 := fun e he hb2 => by
          obtain ⟨_, b1, b2⟩ := Ar.add_bound dd he hc
          refine ⟨?_, b1, b2⟩
          rw [Ar.put_turn _ hv, Ar.val_take_succ hd, hb2, show c + d + e - c = d + e by omega, Int.mul_add, Int.mul_comm d, Int.mul_comm e]
          omega
        refine ⟨_, rfl, _, rfl, _, _, rfl, rfl, _, rfl, _, rfl, u', _, rfl, .inr (SqT.of (s3 _ _ hu1)), _, _, rfl, rfl, _, rfl, ite2 (fun hlt => ?_) (fun hlt => ?_)⟩
        · have hlt : (l.length : Int) < ((b'.map V.int).length : Int) := of_decide_eq_true hlt
          rw [List.length_map] at hlt
          have hlb : l.length < b'.length := by omega
          have gb := List.getElem?_eq_getElem hlb
          have k1 := key _ (hb'.at gb) (Ar.val_take_succ gb)
          refine ⟨_, rfl, _, rfl, u', _, _, _, rfl, rfl, SqT.of (s3 _ _ hu1), at_of (j := l.length) rfl (mapint_get gb), _, _, rfl, rfl, ?_⟩
          refine ⟨_, rfl, .inl ⟨rfl, _, SqL.of hp3⟩, _, rfl, _, rfl, m, _, dm2, _, _, rfl, h2, T.clM, T.nM_base, mf_base, _, _, rfl, rfl, hB, p, _, _, rfl, rfl, hp3, by rw [List.length_map]; exact szlt (by omega), ?_⟩
          have s4 : Same H' (upd (upd H2 Tt (.tup [.int (l.length : Int), .int d])) p (.lst (l.map V.int ++ [.int ((c + d + b'[l.length]) % 2 ^ w)]))) := Same.mut s3 np
          obtain ⟨dm3, lim3, h3⟩ := (M1.same s4).ob
          refine ⟨_, rfl, _, rfl, m, _, dm3, _, _, rfl, h3, T.clM, T.nM_width, mf_width, _, w, rfl, rfl, ?_⟩
          exact ⟨l ++ [(c + d + b'[l.length]) % 2 ^ w], _, _, _, rfl, s4, by rw [upd_same, List.map_append]; rfl, hg.snoc ⟨Int.emod_nonneg _ (Int.ne_of_gt hB), Int.emod_lt_of_pos _ hB⟩, by rw [List.length_append]; rfl, k1.2, k1.1⟩
        · have hlt : ¬ (l.length : Int) < ((b'.map V.int).length : Int) := fun z => hlt (decide_eq_true z)
          rw [List.length_map] at hlt
          have k1 := key 0 ⟨Int.le_refl _, hB⟩ (by rw [Ar.take_ge (by omega), Int.zero_mul, Int.add_zero])
          refine ⟨_, _, rfl, rfl, ?_⟩
          refine ⟨_, rfl, .inl ⟨rfl, _, SqL.of hp3⟩, _, rfl, _, rfl, m, _, dm2, _, _, rfl, h2, T.clM, T.nM_base, mf_base, _, _, rfl, rfl, hB, p, _, _, rfl, rfl, hp3, by rw [List.length_map]; exact szlt (by omega), ?_⟩
          have s4 : Same H' (upd (upd H2 Tt (.tup [.int (l.length : Int), .int d])) p (.lst (l.map V.int ++ [.int ((c + d + 0) % 2 ^ w)]))) := Same.mut s3 np
          obtain ⟨dm3, lim3, h3⟩ := (M1.same s4).ob
          refine ⟨_, rfl, _, rfl, m, _, dm3, _, _, rfl, h3, T.clM, T.nM_width, mf_width, _, w, rfl, rfl, ?_⟩
          exact ⟨l ++ [(c + d + 0) % 2 ^ w], _, _, _, rfl, s4, by rw [upd_same, List.map_append]; rfl, hg.snoc ⟨Int.emod_nonneg _ (Int.ne_of_gt hB), Int.emod_lt_of_pos _ hB⟩, by rw [List.length_append]; rfl, k1.2, k1.1⟩
      · rintro σ H2 ⟨l, c, d1, d2, rfl, s2, hp, hg, hl, hc, hv⟩
        rw [List.length_map] at hl
        have hM := M1.same s2
        obtain ⟨dm2, lim2, h2⟩ := hM.ob
        rw [List.length_map, List.take_length, List.take_of_length_le hlen, hsum] at hv
        refine ⟨_, rfl, m, dm2, _, rfl, h2, mf_count, _, rfl, t', _, rfl, .inr (SqT.of (s2 _ _ ht1)), m, cA, eA, w, "sum", _, rfl, hM, by decide +kernel, fun H4 g2 M2 => ?_⟩
        have hp2 : H4 p = some (.lst (l.map V.int)) := g2.lst hM hp (M.ne np0)
        have g3 : Go cA eA H H4 := (g1.same s2).trans g2
        refine ⟨_, rfl, _, _, rfl, rfl, _, rfl, ite2 (fun h0 => ?_) (fun h0 => ?_)⟩
        · have h0 : 0 < c := of_decide_eq_true h0
          refine ⟨_, rfl, _, rfl, by show 1 ≤ sizeLine; decide, fun p2 np2 => ?_⟩
          have s5 : Same H4 (upd H4 p2 (.lst [.int c])) := Same.new np2
          refine ⟨p, p2, _, _, rfl, rfl, s5 _ _ hp2, upd_same, by rw [List.length_map]; exact szl (by show l.length + 1 ≤ 100000; omega), fun p3 np3 => ?_⟩
          have s6 := s5.trans (Same.new (o := .lst (l.map V.int ++ [.int c])) np3)
          refine q _ p3 (l ++ [c]) (g3.same s6) (M2.same s6) (by rw [upd_same, List.map_append]; rfl) (hg.snoc ⟨by omega, by have := pw8 M.w8; omega⟩) (by rw [List.length_append]; show l.length + 1 ≤ 1001; omega) ?_
          rw [Ar.val_snoc, Int.mul_comm c, hv]
        · have h0 : ¬ 0 < c := fun z => h0 (decide_eq_true z)
          have hc0 : c = 0 := by omega
          rw [hc0, Int.mul_zero, Int.add_zero] at hv
          exact ⟨_, rfl, q H4 p l g3 M2 hp2 hg (by omega) hv⟩
end Tb
set_option Elab.async false
set_option linter.all false
set_option maxRecDepth 100000
set_option maxHeartbeats 4000000
/-! differences -/
namespace Tb
open PySem PySem.Spec PyProof.Rows L2
/-- t[lo:hi] of a tuple: itself or a new one -/
def rSlS : V → Option Int → Option Int → Hp → VK → Prop := fun x lo hi H Q => ∃ a xs, x = .ref a ∧ H a = some (.tup xs) ∧ ∀ p H', Same H H' → H' p = some (.tup (cutV xs lo hi)) → Q (.ref p) H'
theorem sl_tupS {X : Cx} : SlR X rSlS := by
  intro pins s σ H x v vl vu lo hi sl Q I rx hs pl pu h
  obtain ⟨a, xs, ex, ha, q⟩ := h
  refine sl_tupA pins s σ H x v vl vu lo hi sl Q I rx hs pl pu ⟨a, xs, ex, SqT.of ha, fun hw => ?_, fun _ p np => q p _ (Same.new np) upd_same⟩
  refine q a H (Same.refl H) ?_
  have e : cutV xs lo hi = xs := by
    unfold cutV
    rw [hw.1, hw.2, Nat.sub_zero, List.drop_zero, List.take_length]
  rw [e]
  exact ha
variable {P : Program} {wd : World} {K : PySem.W.Frag} {mg : Str → Option Value} {base : Heap}
def spTaking (K : PySem.W.Frag) : Sp := fun vs H Q _ => ∃ (m cA eA t u : Addr) (w : Nat) (a b : List Int) (x y : Int), vs = [.ref m, .ref t, .ref u] ∧ Mach K H m cA eA w ∧ H t = some (.tup (a.map V.int)) ∧ H u = some (.tup (b.map V.int)) ∧ Ar.Row ((2 : Int) ^ w) a x ∧ Ar.Row ((2 : Int) ^ w) b y ∧ a.length ≤ 1000 ∧ b.length ≤ 1000 ∧
  ∀ H' Tt p (sd : Int) (l : List Int), Go cA eA H H' → Mach K H' m cA eA w → H' Tt = some (.tup [.int sd, .ref p]) → H' p = some (.lst (l.map V.int)) → Ar.Dg ((2 : Int) ^ w) l → l.length ≤ 1000 → (sd = 1 ∨ sd = -1 ∨ sd = 0 ∧ Ar.val ((2 : Int) ^ w) l = 0) → sd * Ar.val ((2 : Int) ^ w) l = x - y → Q (.ref Tt) H'
theorem ok_taking (T : Tx K mg) : Fn P wd K mg base 3 "taking" pTaking (spTaking K) := by
  have G_enter : Mt P wd K mg base 1 (cM K) "enter" pMEnter (spMEnter K) := ok_enter T
  have G_count : Mt P wd K mg base 1 (cM K) "count" pMCount (spMCount K) := ok_count T
  have G_looked_down : Fn P wd K mg base 2 "looked_down" pLookedDown (spLookedDown K) := ok_looked_down T
  refine T.d_taking.ok scTaking (fun vs H Q E h => ?_) (fun f cdv A outer s H vs Q E hr h => ?_)
  · obtain ⟨m, cA, eA, t, u, w, a, b, x, y, rfl, _⟩ := h
    rfl
  · obtain ⟨m, cA, eA, t, u, w, a, b, x, y, rfl, M, ht, hu, ha, hb, la, lb, q⟩ := h
    obtain ⟨dm, lim, h1⟩ := M.ob
    have hB := pwp w
    have hB2 := pw8 M.w8
    refine ⟨_, (pss_cons (ps_expr (pe_mt G_enter (hr.mono (by decide)) (pv 0) (pa_cons pe_str (pa_cons (pe_callB call_len_seq (by rfl) T.z_len PySem.boot_len (pa_cons (pv 1) pa_nil)) (pa_cons (pe_callB call_len_seq (by rfl) T.z_len PySem.boot_len (pa_cons (pv 2) pa_nil)) pa_nil)))))
        (pss_cons (ps_set (i := 3) scTaking.nd rfl (.inl rfl) pe_int)
        (C8.pss_cut (ps_if (pt_cmpR op_lt (pe_callB call_len_seq (by rfl) T.z_len PySem.boot_len (pa_cons (pv 1) pa_nil)) (pe_callB call_len_seq (by rfl) T.z_len PySem.boot_len (pa_cons (pv 2) pa_nil)) (nomark _)) (pss_one (ps_par3 (i := 1) (j := 2) (l := 3) (by rfl) scTaking.nd rfl rfl rfl (by decide) (by decide) (by decide) rfl rfl rfl (pa_cons (pv 2) (pa_cons (pv 1) (pa_cons (pe_un un_neg pe_int) pa_nil))) (by rfl))) (pss_one (ps_if (pt_cmpR op_eq (pe_callB call_len_seq (by rfl) T.z_len PySem.boot_len (pa_cons (pv 1) pa_nil)) (pe_callB call_len_seq (by rfl) T.z_len PySem.boot_len (pa_cons (pv 2) pa_nil)) (nomark _)) (pss_cons (ps_set (i := 4) scTaking.nd rfl (.inl rfl) (pe_fn G_looked_down (hr.mono (by decide)) (pa_cons (pv 0) (pa_cons (pv 1) (pa_cons (pv 2) pa_nil)))))
        (pss_cons (ps_if (pt_cmpR op_lt (pv 4) pe_int (nomark _)) (pss_one (ps_ret (pe_tup (pa_cons pe_int (pa_cons (pe_lst pa_nil) pa_nil))))) pss_nil)
        (pss_cons (ps_par (i := 1) (j := 2) (by rfl) scTaking.nd rfl rfl (by decide) rfl rfl (pa_cons (pe_slice sl_tupS (pv 1) po_none (po_some (pe_op op_add (pv 4) pe_int))) (pa_cons (pe_slice sl_tupS (pv 2) po_none (po_some (pe_op op_add (pv 4) pe_int))) pa_nil)) (by rfl))
        (pss_one (ps_if (pt_cmpR op_lt (pe_ix ix_tup (pv 1) (pv 4) (fun _ _ => rfl)) (pe_ix ix_tup (pv 2) (pv 4) (fun _ _ => rfl)) (nomark _)) (pss_one (ps_par3 (i := 1) (j := 2) (l := 3) (by rfl) scTaking.nd rfl rfl rfl (by decide) (by decide) (by decide) rfl rfl rfl (pa_cons (pv 2) (pa_cons (pv 1) (pa_cons (pe_un un_neg pe_int) pa_nil))) (by rfl))) pss_nil))))) pss_nil)))
        (pss_cons (ps_par (i := 5) (j := 6) (by rfl) scTaking.nd rfl rfl (by decide) rfl rfl (pa_cons (pe_lst pa_nil) (pa_cons pe_int pa_nil)) (by rfl))
        (pss_cons (ps_for PassesOwn.never rfl (pi_enumT (by rfl) T.z_enumerate (pa_cons (pv 1) pa_nil)) (pg_tup (by rfl) (pgs_cons (pg_name (i := 4) scTaking.nd rfl (.inl rfl)) (pgs_cons (pg_name (i := 7) scTaking.nd rfl (.inl rfl)) pgs_nil))) (pss_cons (ps_set (i := 6) scTaking.nd rfl (.inl rfl) (pe_op op_sub (pe_op op_sub (pv 7) (pe_ifExp (pt_cmpR op_lt (pv 4) (pe_callB call_len_seq (by rfl) T.z_len PySem.boot_len (pa_cons (pv 2) pa_nil)) (nomark _)) (pe_ix ix_tup (pv 2) (pv 4) (fun _ _ => rfl)) pe_int)) (pv 6)))
        (pss_cons (ps_expr (pe_bm PySem.F.plainAttrs_list PySem.F.slot_list_append PySem.F.type_list_append mt_append (pv 5) (pa_cons (pe_op op_mod (pv 6) (pe_fld (pv 0) rfl)) pa_nil)))
        (pss_one (ps_set (i := 6) scTaking.nd rfl (.inl rfl) (pe_callTy call_int1 (by rfl) T.z_int (by decide +kernel) (pa_cons (pe_cmpR op_lt (pv 6) pe_int (nomark _)) pa_nil)))))))
        (pss_cons (ps_expr (pe_mt G_count (hr.mono (by decide)) (pv 0) (pa_cons pe_str (pa_cons (pe_callB call_len_seq (by rfl) T.z_len PySem.boot_len (pa_cons (pv 1) pa_nil)) pa_nil))))
        (pss_one (ps_ret (pe_tup (pa_cons (pv 3) (pa_cons (pv 5) pa_nil))))))))))), ?_⟩
    refine ⟨_, rfl, m, dm, _, rfl, h1, mf_enter, _, rfl, t, _, rfl, .inr (SqT.of ht), _, rfl, u, _, rfl, .inr (SqT.of hu), m, cA, eA, w, _, _, _, rfl, M, fun H1 g1 M1 => ?_⟩
    have ht1 := g1.tup M ht
    have hu1 := g1.tup M hu
    refine ⟨fun σ H' => ∃ (t' u' : Addr) (a' b' : List Int) (sd : Int) (pl : Option V), σ = [some (.ref m), some (.ref t'), some (.ref u'), some (.int sd), pl, none, none, none] ∧ Go cA eA H H' ∧ Mach K H' m cA eA w ∧ H' t' = some (.tup (a'.map V.int)) ∧ H' u' = some (.tup (b'.map V.int)) ∧ Ar.Dg ((2 : Int) ^ w) a' ∧ Ar.Dg ((2 : Int) ^ w) b' ∧ b'.length ≤ a'.length ∧ a'.length ≤ 1000 ∧ Ar.val ((2 : Int) ^ w) b' ≤ Ar.val ((2 : Int) ^ w) a' ∧ (sd = 1 ∨ sd = -1) ∧ sd * (Ar.val ((2 : Int) ^ w) a' - Ar.val ((2 : Int) ^ w) b') = x - y, ?_, ?_⟩
    · refine ⟨_, rfl, t, _, rfl, .inr (SqT.of ht1), _, rfl, u, _, rfl, .inr (SqT.of hu1), _, _, rfl, rfl, _, rfl, ite2 (fun hlt => ?_) (fun hlt => ?_)⟩
      · have hlt : ((a.map V.int).length : Int) < ((b.map V.int).length : Int) := of_decide_eq_true hlt
        rw [List.length_map, List.length_map] at hlt
        have hxy := Ar.row_lt_of_len (by omega) ha hb (by omega)
        refine ⟨_, rfl, _, rfl, _, rfl, _, _, _, rfl, u, t, b, a, -1, none, rfl, g1, M1, hu1, ht1, hb.dg, ha.dg, by omega, lb, ?_, .inr rfl, ?_⟩
        · rw [ha.vl, hb.vl]
          omega
        · rw [ha.vl, hb.vl]
          omega
      · have hlt : ¬ ((a.map V.int).length : Int) < ((b.map V.int).length : Int) := fun z => hlt (decide_eq_true z)
        refine ⟨_, rfl, t, _, rfl, .inr (SqT.of ht1), _, rfl, u, _, rfl, .inr (SqT.of hu1), rfl, _, rfl, ite2 (fun heq => ?_) (fun heq => ?_)⟩
        · have heq : ((a.map V.int).length : Int) = ((b.map V.int).length : Int) := V.int.inj (of_decide_eq_true heq)
          rw [List.length_map, List.length_map] at heq hlt
          have hlen : a.length = b.length := by omega
          refine ⟨_, rfl, _, rfl, _, rfl, m, cA, eA, t, u, w, a, b, rfl, M1, ht1, hu1, hlen, fun H2 j g2 M2 hj => ?_⟩
          have ht2 := g2.tup M1 ht1
          have hu2 := g2.tup M1 hu1
          refine ⟨_, rfl, _, _, rfl, rfl, _, rfl, ite2 (fun h0 => ?_) (fun h0 => ?_)⟩
          · have h0 : j < 0 := of_decide_eq_true h0
            have hab : a = b := by
              rcases hj with ⟨_, z⟩ | ⟨i, rfl, _⟩
              · exact z
              · omega
            subst hab
            refine ⟨Nat.zero_le _, fun p np => ⟨by show 2 ≤ sizeLine; decide, fun Tt nT => ?_⟩⟩
            have s1 : Same H2 (upd (upd H2 p (.lst [])) Tt (.tup [.int 0, .ref p])) := (Same.new np).trans (Same.new nT)
            refine q _ Tt p 0 [] ((g1.trans g2).same s1) (M2.same s1) upd_same (Same.new nT _ _ upd_same) Ar.Dg.nil (Nat.zero_le _) (.inr (.inr ⟨rfl, rfl⟩)) ?_
            have := ha.vl
            have := hb.vl
            omega
          · have h0 : ¬ j < 0 := fun z => h0 (decide_eq_true z)
            obtain ⟨i, rfl, hi, hd, hne⟩ : ∃ i : Nat, j = i ∧ i < a.length ∧ a.drop (i + 1) = b.drop (i + 1) ∧ a[i]? ≠ b[i]? := by
              rcases hj with ⟨z, _⟩ | z
              · omega
              · exact z
            have hib : i < b.length := by omega
            have ga := List.getElem?_eq_getElem hi
            have gb := List.getElem?_eq_getElem hib
            refine ⟨_, rfl, _, rfl, _, _, rfl, rfl, _, rfl, t, _, rfl, ht2, fun t2 H3 s3 ht3 => ?_⟩
            refine ⟨_, rfl, _, rfl, _, _, rfl, rfl, _, rfl, u, _, rfl, s3 _ _ hu2, fun u2 H4 s4 hu4 => ?_⟩
            have ht4 := s4 _ _ ht3
            rw [show ((i : Int) + 1) = ((i + 1 : Nat) : Int) by omega, cut_take _ (i + 1) (by rw [List.length_map]; omega), ← List.map_take] at ht4 hu4
            have s34 := s3.trans s4
            have g4 : Go cA eA H H4 := (g1.trans g2).same s34
            have M4 := M2.same s34
            have gta : (a.take (i + 1))[i]? = some a[i] := by rw [List.getElem?_take_of_lt (by omega), ga]
            have gtb : (b.take (i + 1))[i]? = some b[i] := by rw [List.getElem?_take_of_lt (by omega), gb]
            have hcut := Ar.cut_at (B := (2 : Int) ^ w) hlen hi hd
            rw [ha.vl, hb.vl] at hcut
            refine ⟨_, _, rfl, _, rfl, _, rfl, t2, _, _, _, rfl, rfl, SqT.of ht4, at_of (j := i) rfl (mapint_get gta), _, rfl, _, rfl, u2, _, _, _, rfl, rfl, SqT.of hu4, at_of (j := i) rfl (mapint_get gtb), _, _, rfl, rfl, _, rfl, ite2 (fun hz => ?_) (fun hz => ?_)⟩
            · have hz : a[i] < b[i] := of_decide_eq_true hz
              have hlt2 := Ar.lt_at hB ha.dg hb.dg ga gb hz
              refine ⟨_, rfl, _, rfl, _, rfl, _, _, _, rfl, u2, t2, b.take (i + 1), a.take (i + 1), -1, _, rfl, g4, M4, hu4, ht4, hb.dg.take _, ha.dg.take _, by rw [List.length_take, List.length_take]; omega, by rw [List.length_take]; omega, by omega, .inr rfl, by omega⟩
            · have hz : ¬ a[i] < b[i] := fun z => hz (decide_eq_true z)
              have hne2 : a[i] ≠ b[i] := fun z => hne (by rw [ga, gb, z])
              have hlt2 := Ar.lt_at hB hb.dg ha.dg gb ga (by omega)
              exact ⟨t2, u2, a.take (i + 1), b.take (i + 1), 1, _, rfl, g4, M4, ht4, hu4, ha.dg.take _, hb.dg.take _, by rw [List.length_take, List.length_take]; omega, by rw [List.length_take]; omega, by omega, .inl rfl, by omega⟩
        · have heq : ¬ ((a.map V.int).length : Int) = ((b.map V.int).length : Int) := fun z => heq (decide_eq_true (congrArg V.int z))
          rw [List.length_map, List.length_map] at heq hlt
          have hxy := Ar.row_lt_of_len (by omega) hb ha (by omega)
          refine ⟨t, u, a, b, 1, none, rfl, g1, M1, ht1, hu1, ha.dg, hb.dg, by omega, la, ?_, .inl rfl, ?_⟩
          · rw [ha.vl, hb.vl]
            omega
          · rw [ha.vl, hb.vl]
            omega
    · rintro σ H' ⟨t', u', a', b', sd, pl, rfl, g2, M2, ht2, hu2, ha', hb', hlen, la', hle, hsd, hv0⟩
      refine ⟨Nat.zero_le _, fun p np => ⟨_, _, rfl, ?_⟩⟩
      have np0 : H p = none := g2.free M M2 np
      have s1 : Same H' (upd H' p (.lst [])) := Same.new np
      refine ⟨_, rfl, t', _, rfl, SqT.of (s1 _ _ ht2), for_it (walk_enumT (a := t') (xs := a'.map V.int)) (fun i σ H2 => ∃ (l : List Int) (c : Int) (d1 d2 : Option V), σ = [some (.ref m), some (.ref t'), some (.ref u'), some (.int sd), d1, some (.ref p), some (.int c), d2] ∧ Same H' H2 ∧ H2 p = some (.lst (l.map V.int)) ∧ Ar.Dg ((2 : Int) ^ w) l ∧ l.length = i ∧ (c = 0 ∨ c = 1) ∧ Ar.val ((2 : Int) ^ w) l + ((2 : Int) ^ w) ^ l.length * (-c) = Ar.val ((2 : Int) ^ w) (a'.take i) - Ar.val ((2 : Int) ^ w) (b'.take i))
        ⟨[], 0, pl, none, rfl, s1, upd_same, Ar.Dg.nil, rfl, .inl rfl, by simp [Ar.val]⟩ (fun i σ H2 _ ⟨_, _, _, _, _, s2, _⟩ => SqT.of (s2 _ _ ht2)) ?_ ?_⟩
      · rintro i y σ H2 H3 hi ⟨l, c, d1, d2, rfl, s2, hp, hg, rfl, hc, hv⟩ ⟨Tt, x1, x2, rfl, nT, rfl, e1, e2⟩
        have e1 : x1 = .int (l.length : Int) := (Option.some.inj e1).symm
        subst e1
        obtain ⟨d, hd, rfl⟩ := mapint_of e2
        have hil := (List.getElem?_eq_some_iff.mp hd).1
        have dd := ha'.at hd
        have s3 : Same H' (upd H2 Tt (.tup [.int (l.length : Int), .int d])) := s2.trans (Same.new nT)
        have hp3 : (upd H2 Tt (.tup [.int (l.length : Int), .int d])) p = some (.lst (l.map V.int)) := Same.new nT _ _ hp
        have hM := M2.same s3
        obtain ⟨dm2, lim2, h2⟩ := hM.ob
        refine ⟨Tt, _, rfl, SqT.of upd_same, rfl, _, _, rfl, _, _, rfl, rfl, ?_⟩
        have key : ∀ e : Int, (0 ≤ e ∧ e < 2 ^ w) → Ar.val ((2 : Int) ^ w) (b'.take (l.length + 1)) = Ar.val ((2 : Int) ^ w) (b'.take l.length) + e * ((2 : Int) ^ w) ^ l.length →
            Ar.val ((2 : Int) ^ w) (l ++ [(d - e - c) % 2 ^ w]) + ((2 : Int) ^ w) ^ (l ++ [(d - e - c) % 2 ^ w]).length * (-(if decide (d - e - c < 0) = true then (1 : Int) else 0)) = Ar.val ((2 : Int) ^ w) (a'.take (l.length + 1)) - Ar.val ((2 : Int) ^ w) (b'.take (l.length + 1)) := fun e he hb2 => by
          have b1 := Ar.sub_bound dd he (r := c) (by omega)
          have b2 : (-(if decide (d - e - c < 0) = true then (1 : Int) else 0)) = (d - e - c) / 2 ^ w := by
            rw [b1]
            by_cases z : d - e - c < 0
            · rw [if_pos z, if_pos (decide_eq_true z)]
            · rw [if_neg z, if_neg (by simpa using z)]
              rfl
          rw [b2, Ar.put_turn _ hv, Ar.val_take_succ hd, hb2, show d - e - c - -c = d - e by omega, Int.mul_sub, Int.mul_comm d, Int.mul_comm e]
          omega
        have kb : ∀ z : Int, ((if decide (z < 0) = true then (1 : Int) else 0) = 0 ∨ (if decide (z < 0) = true then (1 : Int) else 0) = 1) := fun z => by
          split
          · exact .inr rfl
          · exact .inl rfl
        refine ⟨_, rfl, _, rfl, _, rfl, u', _, rfl, .inr (SqT.of (s3 _ _ hu2)), _, _, rfl, rfl, _, rfl, ite2 (fun hlt => ?_) (fun hlt => ?_)⟩
        · have hlt : (l.length : Int) < ((b'.map V.int).length : Int) := of_decide_eq_true hlt
          rw [List.length_map] at hlt
          have hlb : l.length < b'.length := by omega
          have gb := List.getElem?_eq_getElem hlb
          have k1 := key _ (hb'.at gb) (Ar.val_take_succ gb)
          refine ⟨_, rfl, _, rfl, u', _, _, _, rfl, rfl, SqT.of (s3 _ _ hu2), at_of (j := l.length) rfl (mapint_get gb), _, _, rfl, rfl, _, rfl, _, _, rfl, rfl, ?_⟩
          refine ⟨_, rfl, .inl ⟨rfl, _, SqL.of hp3⟩, _, rfl, _, rfl, m, _, dm2, _, _, rfl, h2, T.clM, T.nM_base, mf_base, _, _, rfl, rfl, hB, p, _, _, rfl, rfl, hp3, by rw [List.length_map]; exact szlt (by omega), ?_⟩
          have s4 : Same H' (upd (upd H2 Tt (.tup [.int (l.length : Int), .int d])) p (.lst (l.map V.int ++ [.int ((d - b'[l.length] - c) % 2 ^ w)]))) := Same.mut s3 np
          refine ⟨_, rfl, _, _, rfl, rfl, .inr ⟨_, rfl, ?_⟩⟩
          exact ⟨l ++ [(d - b'[l.length] - c) % 2 ^ w], _, _, _, rfl, s4, by rw [upd_same, List.map_append]; rfl, hg.snoc ⟨Int.emod_nonneg _ (Int.ne_of_gt hB), Int.emod_lt_of_pos _ hB⟩, by rw [List.length_append]; rfl, kb _, k1⟩
        · have hlt : ¬ (l.length : Int) < ((b'.map V.int).length : Int) := fun z => hlt (decide_eq_true z)
          rw [List.length_map] at hlt
          have k1 := key 0 ⟨Int.le_refl _, hB⟩ (by rw [Ar.take_ge (by omega), Int.zero_mul, Int.add_zero])
          refine ⟨_, _, rfl, rfl, _, rfl, _, _, rfl, rfl, ?_⟩
          refine ⟨_, rfl, .inl ⟨rfl, _, SqL.of hp3⟩, _, rfl, _, rfl, m, _, dm2, _, _, rfl, h2, T.clM, T.nM_base, mf_base, _, _, rfl, rfl, hB, p, _, _, rfl, rfl, hp3, by rw [List.length_map]; exact szlt (by omega), ?_⟩
          have s4 : Same H' (upd (upd H2 Tt (.tup [.int (l.length : Int), .int d])) p (.lst (l.map V.int ++ [.int ((d - 0 - c) % 2 ^ w)]))) := Same.mut s3 np
          refine ⟨_, rfl, _, _, rfl, rfl, .inr ⟨_, rfl, ?_⟩⟩
          exact ⟨l ++ [(d - 0 - c) % 2 ^ w], _, _, _, rfl, s4, by rw [upd_same, List.map_append]; rfl, hg.snoc ⟨Int.emod_nonneg _ (Int.ne_of_gt hB), Int.emod_lt_of_pos _ hB⟩, by rw [List.length_append]; rfl, kb _, k1⟩
      · rintro σ H2 ⟨l, c, d1, d2, rfl, s2, hp, hg, hl, hc, hv⟩
        rw [List.length_map] at hl
        have hM := M2.same s2
        obtain ⟨dm2, lim2, h2⟩ := hM.ob
        rw [List.length_map, List.take_length, List.take_of_length_le hlen] at hv
        obtain ⟨_, hv2⟩ := Ar.sub_end hB hg hc hv hle
        refine ⟨_, rfl, m, dm2, _, rfl, h2, mf_count, _, rfl, t', _, rfl, .inr (SqT.of (s2 _ _ ht2)), m, cA, eA, w, "sum", _, rfl, hM, by decide +kernel, fun H4 g4 M4 => ?_⟩
        have hp2 : H4 p = some (.lst (l.map V.int)) := g4.lst hM hp (M.ne np0)
        have g3 : Go cA eA H H4 := (g2.same s2).trans g4
        refine ⟨_, rfl, _, rfl, by show 2 ≤ sizeLine; decide, fun Tt nT => ?_⟩
        have s5 : Same H4 (upd H4 Tt (.tup [.int sd, .ref p])) := Same.new nT
        refine q _ Tt p sd l (g3.same s5) (M4.same s5) upd_same (s5 _ _ hp2) hg (by omega) ?_ (by rw [hv2, hv0])
        rcases hsd with z | z
        · exact .inl z
        · exact .inr (.inl z)
end Tb
set_option Elab.async false
set_option linter.all false
set_option maxRecDepth 100000
set_option maxHeartbeats 4000000
/-! sums and differences of numbers -/
namespace Tb
open PySem PySem.Spec PyProof.Rows L2
theorem sign3 (a : Int) : (a.sign = 1 ∧ 0 < a) ∨ (a.sign = 0 ∧ a = 0) ∨ (a.sign = -1 ∧ a < 0) := by
  rcases Int.lt_trichotomy a 0 with h | h | h
  · exact .inr (.inr ⟨Int.sign_eq_neg_one_of_neg h, h⟩)
  · exact .inr (.inl ⟨by rw [h]; rfl, h⟩)
  · exact .inl ⟨Int.sign_eq_one_of_pos h, h⟩
theorem sm_lt {n : Int} {k : Nat} (h : (n.natAbs : Int) < 2 ^ k) (hk : k ≤ 4000) : Sm n := Sm.of (Int.lt_of_lt_of_le h (pw_mono hk))
theorem small_abs {a : Int} (h : (a.natAbs : Int) < 4294967296) : Sm a := sm_lt (k := 32) (by
  have e : (2 : Int) ^ 32 = 4294967296 := by decide
  rw [e]
  exact h) (by omega)
theorem small_sum {w : Nat} {a b : Int} (h : w ≤ 30) (ha : (a.natAbs : Int) < 2 ^ w) (hb : (b.natAbs : Int) < 2 ^ w) : Sm (a + b) := by
  have := pw30 h
  exact small_abs (by omega)
theorem small_dif {w : Nat} {a b : Int} (h : w ≤ 30) (ha : (a.natAbs : Int) < 2 ^ w) (hb : (b.natAbs : Int) < 2 ^ w) : Sm (a - b) := by
  have := pw30 h
  exact small_abs (by omega)
variable {P : Program} {wd : World} {K : PySem.W.Frag} {mg : Str → Option Value} {base : Heap}

def spAdded (K : PySem.W.Frag) : Sp := fun vs H Q _ => ∃ (m cA eA x y : Addr) (w : Nat) (a b : Int), vs = [.ref m, .ref x, .ref y] ∧ Mach K H m cA eA w ∧ IsBig K H x w a ∧ IsBig K H y w b ∧ Sm a ∧ Sm b ∧
  ∀ H' z, Go cA eA H H' → Mach K H' m cA eA w → IsBig K H' z w (a + b) → Q (.ref z) H'
theorem ok_added (T : Tx K mg) : Fn P wd K mg base 5 "added" pAdded (spAdded K) := by
  have G_is_compact : Fn P wd K mg base 1 "is_compact" pIsCompact (spIsCompact K) := ok_is_compact T
  have G_count : Mt P wd K mg base 1 (cM K) "count" pMCount (spMCount K) := ok_count T
  have G_big_of : Fn P wd K mg base 4 "big_of" pBigOf (spBigOf K) := ok_big_of T
  have G_value_of : Fn P wd K mg base 1 "value_of" pValueOf (spValueOf K) := ok_value_of T
  have G_made : Fn P wd K mg base 3 "made" pMade (spMade K) := ok_made T
  have G_adding : Fn P wd K mg base 2 "adding" pAdding (spAdding K) := ok_adding T
  have G_taking : Fn P wd K mg base 3 "taking" pTaking (spTaking K) := ok_taking T
  refine T.d_added.ok scAdded (fun vs H Q E h => ?_) (fun f cdv A outer s H vs Q E hr h => ?_)
  · obtain ⟨m, cA, eA, x, y, w, a, b, rfl, _⟩ := h
    rfl
  · obtain ⟨m, cA, eA, x, y, w, a, b, rfl, M, B1, B2, sa, sb, q⟩ := h
    obtain ⟨dm, lim, h1⟩ := M.ob
    obtain ⟨dx, tx, lx, hx, htx, Rx⟩ := B1.ex
    obtain ⟨dy, ty, ly, hy, hty, Ry⟩ := B2.ex
    have lenx := row_len M.w8 Rx sa.lt
    have leny := row_len M.w8 Ry sb.lt
    have h8 := M.w8
    have h30 := M.w30
    have sgx := sign3 a
    have sgy := sign3 b
    refine ⟨_, (C8.pss_cut (ps_if (PW.pt (pw_and (pt_val (pe_fn G_is_compact (hr.mono (by decide)) (pa_cons (pv 1) pa_nil))) (pw_and1 (pt_val (pe_fn G_is_compact (hr.mono (by decide)) (pa_cons (pv 2) pa_nil)))))) (pss_cons (ps_expr (pe_mt G_count (hr.mono (by decide)) (pv 0) (pa_cons pe_str (pa_cons pe_int pa_nil))))
        (pss_one (ps_ret (pe_fn G_big_of (hr.mono (by decide)) (pa_cons (pv 0) (pa_cons (pe_op op_add (pe_fn G_value_of (hr.mono (by decide)) (pa_cons (pv 1) pa_nil)) (pe_fn G_value_of (hr.mono (by decide)) (pa_cons (pv 2) pa_nil))) pa_nil)))))) pss_nil)
        (pss_cons (ps_if (pt_cmpR op_eq (pe_cmpR op_lt (pe_fld (pv 1) rfl) pe_int (nomark _)) (pe_cmpR op_lt (pe_fld (pv 2) rfl) pe_int (nomark _)) (nomark _)) (pss_one (ps_ret (pe_fn G_made (hr.mono (by decide)) (pa_cons (pv 0) (pa_cons (pe_ifExp (pt_cmpR op_lt (pe_fld (pv 1) rfl) pe_int (nomark _)) (pe_un un_neg pe_int) pe_int) (pa_cons (pe_fn G_adding (hr.mono (by decide)) (pa_cons (pv 0) (pa_cons (pe_fld (pv 1) rfl) (pa_cons (pe_fld (pv 2) rfl) pa_nil)))) pa_nil)))))) pss_nil)
        (C8.pss_cut (ps_asg (pe_ifExp (pt_cmpR op_lt (pe_fld (pv 1) rfl) pe_int (nomark _)) (pe_tup (pa_cons (pv 2) (pa_cons (pv 1) pa_nil))) (pe_tup (pa_cons (pv 1) (pa_cons (pv 2) pa_nil)))) (pg_tup (by rfl) (pgs_cons (pg_name (i := 3) scAdded.nd rfl (.inl rfl)) (pgs_cons (pg_name (i := 4) scAdded.nd rfl (.inl rfl)) pgs_nil))))
        (pss_cons (ps_asg (pe_fn G_taking (hr.mono (by decide)) (pa_cons (pv 0) (pa_cons (pe_fld (pv 3) rfl) (pa_cons (pe_fld (pv 4) rfl) pa_nil)))) (pg_tup (by rfl) (pgs_cons (pg_name (i := 5) scAdded.nd rfl (.inl rfl)) (pgs_cons (pg_name (i := 6) scAdded.nd rfl (.inl rfl)) pgs_nil))))
        (pss_one (ps_ret (pe_fn G_made (hr.mono (by decide)) (pa_cons (pv 0) (pa_cons (pv 5) (pa_cons (pv 6) pa_nil)))))))))), ?_⟩
    refine ⟨fun σ H' => σ = [some (.ref m), some (.ref x), some (.ref y), none, none, none, none] ∧ H' = H, ?_, ?_⟩
    · refine ⟨_, rfl, x, w, a, rfl, B1, _, rfl, ite2 (fun c1 => ?_) (fun c1 => ⟨rfl, rfl⟩)⟩
      refine ⟨_, rfl, y, w, b, rfl, B2, _, rfl, ite2 (fun c2 => ?_) (fun c2 => ⟨rfl, rfl⟩)⟩
      have c1 : (a.natAbs : Int) < 2 ^ w := of_decide_eq_true c1
      have c2 : (b.natAbs : Int) < 2 ^ w := of_decide_eq_true c2
      refine ⟨_, rfl, m, dm, _, rfl, h1, mf_count, m, cA, eA, w, "short", 1, rfl, M, by decide +kernel, fun H1 g1 M1 => ?_⟩
      refine ⟨_, rfl, _, rfl, x, w, a, rfl, B1.go g1 M, h8, h30, sa, fun H2 s2 => ⟨_, rfl, y, w, b, rfl, (B2.go g1 M).same s2, h8, h30, sb, fun H3 s3 => ?_⟩⟩
      have s23 := s2.trans s3
      refine ⟨_, _, rfl, rfl, m, cA, eA, w, _, rfl, M1.same s23, small_sum h30 c1 c2, fun H4 z s4 B => ?_⟩
      exact q H4 z ((g1.same s23).same s4) ((M1.same s23).same s4) B
    · rintro σ H' ⟨rfl, rfl⟩
      refine ⟨_, rfl, x, _, dx, _, _, rfl, hx, T.clB, T.nB_side, bf_side, _, _, rfl, rfl, _, rfl, y, _, dy, _, _, rfl, hy, T.clB, T.nB_side, bf_side, _, _, rfl, rfl, rfl, _, rfl, ite2 (fun hs => ?_) (fun hs => ?_)⟩
      · have hs : (a.sign < 0 ↔ b.sign < 0) := decide_eq_decide.mp (V.bl.inj (of_decide_eq_true hs))
        refine ⟨_, rfl, _, rfl, x, _, dx, _, _, rfl, hx, T.clB, T.nB_side, bf_side, _, _, rfl, rfl, _, rfl, ite2 (fun hz => ⟨_, rfl, ?_⟩) (fun hz => ?_)⟩
        all_goals
          refine ⟨_, rfl, _, rfl, x, _, dx, _, _, rfl, hx, T.clB, T.nB_row, bf_row, _, rfl, y, _, dy, _, _, rfl, hy, T.clB, T.nB_row, bf_row, m, cA, eA, tx, ty, w, lx, ly, rfl, M, htx, hty, Rx.dg, Ry.dg, by omega, by omega, fun H1 p l g1 M1 hp hg hl hv => ?_⟩
          rw [Rx.vl, Ry.vl] at hv
          refine ⟨m, cA, eA, p, w, _, l, rfl, M1, hp, hg, by omega, by simp, fun H2 z s2 B => q H2 z (g1.same s2) (M1.same s2) ?_⟩
          rw [hv] at B
          first
            | (have hz : a.sign < 0 := of_decide_eq_true hz
               rw [show -1 * ((a.natAbs : Int) + (b.natAbs : Int)) = a + b by omega] at B
               exact B)
            | (have hz : ¬ a.sign < 0 := fun z => hz (decide_eq_true z)
               rw [show 1 * ((a.natAbs : Int) + (b.natAbs : Int)) = a + b by omega] at B
               exact B)
      · have hs : ¬ (a.sign < 0 ↔ b.sign < 0) := fun z => hs (decide_eq_true (congrArg V.bl (decide_eq_decide.mpr z)))
        refine ⟨fun σ2 H2 => ∃ (o1 o2 : Addr) (n1 n2 : Int), σ2 = [some (.ref m), some (.ref x), some (.ref y), some (.ref o1), some (.ref o2), none, none] ∧ Same H' H2 ∧ IsBig K H2 o1 w n1 ∧ IsBig K H2 o2 w n2 ∧ Sm n1 ∧ Sm n2 ∧ (n1.natAbs : Int) - (n2.natAbs : Int) = a + b, ?_, ?_⟩
        · refine ⟨_, rfl, x, _, dx, _, _, rfl, hx, T.clB, T.nB_side, bf_side, _, _, rfl, rfl, _, rfl, ite2 (fun hz => ?_) (fun hz => ?_)⟩
          · have hz : a.sign < 0 := of_decide_eq_true hz
            refine ⟨_, rfl, _, rfl, by show 2 ≤ sizeLine; decide, fun Tt nT => ⟨Tt, _, rfl, SqT.of upd_same, rfl, _, _, rfl, _, _, rfl, rfl, ?_⟩⟩
            exact ⟨y, x, b, a, rfl, Same.new nT, B2.same (Same.new nT), B1.same (Same.new nT), sb, sa, by omega⟩
          · have hz : ¬ a.sign < 0 := fun z => hz (decide_eq_true z)
            refine ⟨_, rfl, _, rfl, by show 2 ≤ sizeLine; decide, fun Tt nT => ⟨Tt, _, rfl, SqT.of upd_same, rfl, _, _, rfl, _, _, rfl, rfl, ?_⟩⟩
            exact ⟨x, y, a, b, rfl, Same.new nT, B1.same (Same.new nT), B2.same (Same.new nT), sa, sb, by omega⟩
        · rintro σ2 H2 ⟨o1, o2, n1, n2, rfl, s2, C1, C2, t1, t2, hn⟩
          obtain ⟨d1, u1, l1, k1, hu1, R1⟩ := C1.ex
          obtain ⟨d2, u2, l2, k2, hu2, R2⟩ := C2.ex
          have e1 := row_len h8 R1 t1.lt
          have e2 := row_len h8 R2 t2.lt
          refine ⟨_, rfl, _, rfl, o1, _, d1, _, _, rfl, k1, T.clB, T.nB_row, bf_row, _, rfl, o2, _, d2, _, _, rfl, k2, T.clB, T.nB_row, bf_row, m, cA, eA, u1, u2, w, l1, l2, _, _, rfl, M.same s2, hu1, hu2, R1, R2, by omega, by omega, fun H3 Tt p sd l g3 M3 hT hp hg hl hsd hv => ?_⟩
          refine ⟨Tt, _, rfl, SqT.of hT, rfl, _, _, rfl, _, _, rfl, rfl, ?_⟩
          refine ⟨_, rfl, _, rfl, _, rfl, m, cA, eA, p, w, sd, l, rfl, M3, hp, hg, by omega, hsd, fun H4 z s4 B => ?_⟩
          rw [hv, hn] at B
          exact q H4 z (((Same.go s2).trans g3).same s4) (M3.same s4) B

def spSubtracted (K : PySem.W.Frag) : Sp := fun vs H Q _ => ∃ (m cA eA x y : Addr) (w : Nat) (a b : Int), vs = [.ref m, .ref x, .ref y] ∧ Mach K H m cA eA w ∧ IsBig K H x w a ∧ IsBig K H y w b ∧ Sm a ∧ Sm b ∧
  ∀ H' z, Go cA eA H H' → Mach K H' m cA eA w → IsBig K H' z w (a - b) → Q (.ref z) H'
theorem ok_subtracted (T : Tx K mg) : Fn P wd K mg base 5 "subtracted" pSubtracted (spSubtracted K) := by
  have G_is_compact : Fn P wd K mg base 1 "is_compact" pIsCompact (spIsCompact K) := ok_is_compact T
  have G_count : Mt P wd K mg base 1 (cM K) "count" pMCount (spMCount K) := ok_count T
  have G_big_of : Fn P wd K mg base 4 "big_of" pBigOf (spBigOf K) := ok_big_of T
  have G_value_of : Fn P wd K mg base 1 "value_of" pValueOf (spValueOf K) := ok_value_of T
  have G_made : Fn P wd K mg base 3 "made" pMade (spMade K) := ok_made T
  have G_adding : Fn P wd K mg base 2 "adding" pAdding (spAdding K) := ok_adding T
  have G_taking : Fn P wd K mg base 3 "taking" pTaking (spTaking K) := ok_taking T
  refine T.d_subtracted.ok scSubtracted (fun vs H Q E h => ?_) (fun f cdv A outer s H vs Q E hr h => ?_)
  · obtain ⟨m, cA, eA, x, y, w, a, b, rfl, _⟩ := h
    rfl
  · obtain ⟨m, cA, eA, x, y, w, a, b, rfl, M, B1, B2, sa, sb, q⟩ := h
    obtain ⟨dm, lim, h1⟩ := M.ob
    obtain ⟨dx, tx, lx, hx, htx, Rx⟩ := B1.ex
    obtain ⟨dy, ty, ly, hy, hty, Ry⟩ := B2.ex
    have lenx := row_len M.w8 Rx sa.lt
    have leny := row_len M.w8 Ry sb.lt
    have h8 := M.w8
    have h30 := M.w30
    have sgx := sign3 a
    have sgy := sign3 b
    refine ⟨_, (C8.pss_cut (ps_if (PW.pt (pw_and (pt_val (pe_fn G_is_compact (hr.mono (by decide)) (pa_cons (pv 1) pa_nil))) (pw_and1 (pt_val (pe_fn G_is_compact (hr.mono (by decide)) (pa_cons (pv 2) pa_nil)))))) (pss_cons (ps_expr (pe_mt G_count (hr.mono (by decide)) (pv 0) (pa_cons pe_str (pa_cons pe_int pa_nil))))
        (pss_one (ps_ret (pe_fn G_big_of (hr.mono (by decide)) (pa_cons (pv 0) (pa_cons (pe_op op_sub (pe_fn G_value_of (hr.mono (by decide)) (pa_cons (pv 1) pa_nil)) (pe_fn G_value_of (hr.mono (by decide)) (pa_cons (pv 2) pa_nil))) pa_nil)))))) pss_nil)
        (pss_cons (ps_if (pt_cmpR op_ne (pe_cmpR op_lt (pe_fld (pv 1) rfl) pe_int (nomark _)) (pe_cmpR op_lt (pe_fld (pv 2) rfl) pe_int (nomark _)) (nomark _)) (pss_one (ps_ret (pe_fn G_made (hr.mono (by decide)) (pa_cons (pv 0) (pa_cons (pe_ifExp (pt_cmpR op_lt (pe_fld (pv 1) rfl) pe_int (nomark _)) (pe_un un_neg pe_int) pe_int) (pa_cons (pe_fn G_adding (hr.mono (by decide)) (pa_cons (pv 0) (pa_cons (pe_fld (pv 1) rfl) (pa_cons (pe_fld (pv 2) rfl) pa_nil)))) pa_nil)))))) pss_nil)
        (C8.pss_cut (ps_asg (pe_ifExp (pt_cmpR op_lt (pe_fld (pv 1) rfl) pe_int (nomark _)) (pe_tup (pa_cons (pv 2) (pa_cons (pv 1) pa_nil))) (pe_tup (pa_cons (pv 1) (pa_cons (pv 2) pa_nil)))) (pg_tup (by rfl) (pgs_cons (pg_name (i := 3) scSubtracted.nd rfl (.inl rfl)) (pgs_cons (pg_name (i := 4) scSubtracted.nd rfl (.inl rfl)) pgs_nil))))
        (pss_cons (ps_asg (pe_fn G_taking (hr.mono (by decide)) (pa_cons (pv 0) (pa_cons (pe_fld (pv 3) rfl) (pa_cons (pe_fld (pv 4) rfl) pa_nil)))) (pg_tup (by rfl) (pgs_cons (pg_name (i := 5) scSubtracted.nd rfl (.inl rfl)) (pgs_cons (pg_name (i := 6) scSubtracted.nd rfl (.inl rfl)) pgs_nil))))
        (pss_one (ps_ret (pe_fn G_made (hr.mono (by decide)) (pa_cons (pv 0) (pa_cons (pv 5) (pa_cons (pv 6) pa_nil)))))))))), ?_⟩
    refine ⟨fun σ H' => σ = [some (.ref m), some (.ref x), some (.ref y), none, none, none, none] ∧ H' = H, ?_, ?_⟩
    · refine ⟨_, rfl, x, w, a, rfl, B1, _, rfl, ite2 (fun c1 => ?_) (fun c1 => ⟨rfl, rfl⟩)⟩
      refine ⟨_, rfl, y, w, b, rfl, B2, _, rfl, ite2 (fun c2 => ?_) (fun c2 => ⟨rfl, rfl⟩)⟩
      have c1 : (a.natAbs : Int) < 2 ^ w := of_decide_eq_true c1
      have c2 : (b.natAbs : Int) < 2 ^ w := of_decide_eq_true c2
      refine ⟨_, rfl, m, dm, _, rfl, h1, mf_count, m, cA, eA, w, "short", 1, rfl, M, by decide +kernel, fun H1 g1 M1 => ?_⟩
      refine ⟨_, rfl, _, rfl, x, w, a, rfl, B1.go g1 M, h8, h30, sa, fun H2 s2 => ⟨_, rfl, y, w, b, rfl, (B2.go g1 M).same s2, h8, h30, sb, fun H3 s3 => ?_⟩⟩
      have s23 := s2.trans s3
      refine ⟨_, _, rfl, rfl, m, cA, eA, w, _, rfl, M1.same s23, small_dif h30 c1 c2, fun H4 z s4 B => ?_⟩
      exact q H4 z ((g1.same s23).same s4) ((M1.same s23).same s4) B
    · rintro σ H' ⟨rfl, rfl⟩
      refine ⟨_, rfl, x, _, dx, _, _, rfl, hx, T.clB, T.nB_side, bf_side, _, _, rfl, rfl, _, rfl, y, _, dy, _, _, rfl, hy, T.clB, T.nB_side, bf_side, _, _, rfl, rfl, rfl, _, rfl, ite2 (fun hs => ?_) (fun hs => ?_)⟩
      · have hs : ¬ (a.sign < 0 ↔ b.sign < 0) := fun z => by
          have e : decide (V.bl (decide (a.sign < 0)) = V.bl (decide (b.sign < 0))) = true := decide_eq_true (congrArg V.bl (decide_eq_decide.mpr z))
          have hs2 : (!decide (V.bl (decide (a.sign < 0)) = V.bl (decide (b.sign < 0)))) = true := hs
          rw [e] at hs2
          cases hs2
        refine ⟨_, rfl, _, rfl, x, _, dx, _, _, rfl, hx, T.clB, T.nB_side, bf_side, _, _, rfl, rfl, _, rfl, ite2 (fun hz => ⟨_, rfl, ?_⟩) (fun hz => ?_)⟩
        all_goals
          refine ⟨_, rfl, _, rfl, x, _, dx, _, _, rfl, hx, T.clB, T.nB_row, bf_row, _, rfl, y, _, dy, _, _, rfl, hy, T.clB, T.nB_row, bf_row, m, cA, eA, tx, ty, w, lx, ly, rfl, M, htx, hty, Rx.dg, Ry.dg, by omega, by omega, fun H1 p l g1 M1 hp hg hl hv => ?_⟩
          rw [Rx.vl, Ry.vl] at hv
          refine ⟨m, cA, eA, p, w, _, l, rfl, M1, hp, hg, by omega, by simp, fun H2 z s2 B => q H2 z (g1.same s2) (M1.same s2) ?_⟩
          rw [hv] at B
          first
            | (have hz : a.sign < 0 := of_decide_eq_true hz
               rw [show -1 * ((a.natAbs : Int) + (b.natAbs : Int)) = a - b by omega] at B
               exact B)
            | (have hz : ¬ a.sign < 0 := fun z => hz (decide_eq_true z)
               rw [show 1 * ((a.natAbs : Int) + (b.natAbs : Int)) = a - b by omega] at B
               exact B)
      · have hs : (a.sign < 0 ↔ b.sign < 0) := by
          have hs2 : ¬ (!decide (V.bl (decide (a.sign < 0)) = V.bl (decide (b.sign < 0)))) = true := hs
          cases e : decide (V.bl (decide (a.sign < 0)) = V.bl (decide (b.sign < 0))) with
          | true => exact decide_eq_decide.mp (V.bl.inj (of_decide_eq_true e))
          | false => exact absurd (by rw [e]; rfl) hs2
        refine ⟨fun σ2 H2 => ∃ (o1 o2 : Addr) (n1 n2 : Int), σ2 = [some (.ref m), some (.ref x), some (.ref y), some (.ref o1), some (.ref o2), none, none] ∧ Same H' H2 ∧ IsBig K H2 o1 w n1 ∧ IsBig K H2 o2 w n2 ∧ Sm n1 ∧ Sm n2 ∧ (n1.natAbs : Int) - (n2.natAbs : Int) = a - b, ?_, ?_⟩
        · refine ⟨_, rfl, x, _, dx, _, _, rfl, hx, T.clB, T.nB_side, bf_side, _, _, rfl, rfl, _, rfl, ite2 (fun hz => ?_) (fun hz => ?_)⟩
          · have hz : a.sign < 0 := of_decide_eq_true hz
            refine ⟨_, rfl, _, rfl, by show 2 ≤ sizeLine; decide, fun Tt nT => ⟨Tt, _, rfl, SqT.of upd_same, rfl, _, _, rfl, _, _, rfl, rfl, ?_⟩⟩
            exact ⟨y, x, b, a, rfl, Same.new nT, B2.same (Same.new nT), B1.same (Same.new nT), sb, sa, by omega⟩
          · have hz : ¬ a.sign < 0 := fun z => hz (decide_eq_true z)
            refine ⟨_, rfl, _, rfl, by show 2 ≤ sizeLine; decide, fun Tt nT => ⟨Tt, _, rfl, SqT.of upd_same, rfl, _, _, rfl, _, _, rfl, rfl, ?_⟩⟩
            exact ⟨x, y, a, b, rfl, Same.new nT, B1.same (Same.new nT), B2.same (Same.new nT), sa, sb, by omega⟩
        · rintro σ2 H2 ⟨o1, o2, n1, n2, rfl, s2, C1, C2, t1, t2, hn⟩
          obtain ⟨d1, u1, l1, k1, hu1, R1⟩ := C1.ex
          obtain ⟨d2, u2, l2, k2, hu2, R2⟩ := C2.ex
          have e1 := row_len h8 R1 t1.lt
          have e2 := row_len h8 R2 t2.lt
          refine ⟨_, rfl, _, rfl, o1, _, d1, _, _, rfl, k1, T.clB, T.nB_row, bf_row, _, rfl, o2, _, d2, _, _, rfl, k2, T.clB, T.nB_row, bf_row, m, cA, eA, u1, u2, w, l1, l2, _, _, rfl, M.same s2, hu1, hu2, R1, R2, by omega, by omega, fun H3 Tt p sd l g3 M3 hT hp hg hl hsd hv => ?_⟩
          refine ⟨Tt, _, rfl, SqT.of hT, rfl, _, _, rfl, _, _, rfl, rfl, ?_⟩
          refine ⟨_, rfl, _, rfl, _, rfl, m, cA, eA, p, w, sd, l, rfl, M3, hp, hg, by omega, hsd, fun H4 z s4 B => ?_⟩
          rw [hv, hn] at B
          exact q H4 z (((Same.go s2).trans g3).same s4) (M3.same s4) B
end Tb
set_option linter.all false
/-! the division's own turns, in plain arithmetic -/
namespace Ar
theorem take_set {l : List Int} {k : Nat} (d : Int) (h : k < l.length) : (l.set k d).take (k + 1) = l.take k ++ [d] := by
  rw [List.take_set, List.take_add_one, List.getElem?_eq_getElem h]
  show (l.take k ++ [l[k]]).set k d = _
  have e : k = (l.take k).length := by rw [List.length_take]; omega
  rw [List.set_append, if_neg (by omega)]
  rw [← e, Nat.sub_self]
  rfl
theorem val_take_set {B : Int} {l : List Int} {k : Nat} (d : Int) (h : k < l.length) : val B ((l.set k d).take (k + 1)) = val B (l.take k) + d * B ^ k := by
  rw [take_set d h, val_snoc, List.length_take, Nat.min_eq_left (Nat.le_of_lt h)]
theorem val_drop_set {B : Int} {l : List Int} {k : Nat} (d : Int) (h : k < l.length) : val B ((l.set k d).drop k) = d + B * val B (l.drop (k + 1)) := by
  have e : (l.set k d)[k]? = some d := List.getElem?_set_self h
  rw [val_drop_succ e, List.drop_set, if_pos (by omega)]
/-- a turn of the row that is taken or put: x the digit that stood there, y what comes to it -/
theorem row_turn {B v c x y : Int} {l : List Int} {k : Nat} (hk : k < l.length) (h : val B (l.take k) + c * B ^ k = v) : val B ((l.set k ((x + c + y) % B)).take (k + 1)) + (x + c + y) / B * B ^ (k + 1) = v + x * B ^ k + y * B ^ k := by
  rw [val_take_set _ hk, pw_succ, ← h]
  have e := Int.emod_add_mul_ediv (x + c + y) B
  have e2 : (x + c + y) % B * B ^ k + (x + c + y) / B * (B ^ k * B) = (x + c + y) * B ^ k := by
    have e3 : (x + c + y) * B ^ k = ((x + c + y) % B + B * ((x + c + y) / B)) * B ^ k := by rw [e]
    rw [e3, Int.add_mul, Int.mul_comm B, Int.mul_assoc, Int.mul_comm B]
  rw [Int.add_assoc, e2, Int.add_mul, Int.add_mul]
  omega
/-- what a step leaves: Vl the digits below the top one r2, V those that product's taking has left, c what is missing -/
theorem step_ok {B b R Vl V r2 c h q : Int} {s n : Nat} (hB : 0 < B) (hb : 0 < b) (hbn : b < B ^ n) (hR : R = Vl + r2 * B ^ (s + n)) (hR0 : 0 ≤ R) (hV : 0 ≤ V ∧ V < B ^ (s + n)) (he : V + c * B ^ (s + n) = Vl - h * b * B ^ s)
    (hq : q = R / (b * B ^ s)) (h1 : q ≤ h) (h2 : h ≤ q + 1) :
    (h = q → 0 ≤ r2 + c ∧ V = R % (b * B ^ s)) ∧ (h = q + 1 → r2 + c < 0 ∧ ∀ V2 c2 : Int, 0 ≤ V2 ∧ V2 < B ^ (s + n) → V2 + c2 * B ^ (s + n) = V + b * B ^ s → V2 = R % (b * B ^ s)) := by
  have ps := pw_pos hB s
  have psn := pw_pos hB (s + n)
  have hbp : 0 < b * B ^ s := Int.mul_pos hb ps
  have m0 := Int.emod_nonneg R (Int.ne_of_gt hbp)
  have m1 := Int.emod_lt_of_pos R hbp
  have em := Int.emod_add_mul_ediv R (b * B ^ s)
  have hbs : b * B ^ s < B ^ (s + n) := by
    rw [pw_add, Int.mul_comm (B ^ s)]
    exact Int.mul_lt_mul_of_pos_right hbn ps
  rw [← hq] at em
  have e1 : V + (r2 + c) * B ^ (s + n) = R - h * b * B ^ s := by rw [Int.add_mul]; omega
  have zero_of : ∀ x y k : Int, 0 ≤ x ∧ x < B ^ (s + n) → 0 ≤ y ∧ y < B ^ (s + n) → x + k * B ^ (s + n) = y → k = 0 ∧ x = y := fun x y k hx hy e => by
    have hk : k = 0 := by
      rcases Int.lt_trichotomy k 0 with z | z | z
      · have : k * B ^ (s + n) ≤ (-1) * B ^ (s + n) := Int.mul_le_mul_of_nonneg_right (by omega) (Int.le_of_lt psn)
        omega
      · exact z
      · have : 1 * B ^ (s + n) ≤ k * B ^ (s + n) := Int.mul_le_mul_of_nonneg_right (by omega) (Int.le_of_lt psn)
        omega
    subst hk
    rw [Int.zero_mul] at e
    exact ⟨rfl, by omega⟩
  constructor
  · intro hh
    have e2 : h * b * B ^ s = b * B ^ s * q := by rw [hh, Int.mul_assoc, Int.mul_comm]
    obtain ⟨z1, z2⟩ := zero_of V (R % (b * B ^ s)) (r2 + c) hV ⟨m0, by omega⟩ (by omega)
    exact ⟨by omega, z2⟩
  · intro hh
    have e2 : h * b * B ^ s = b * B ^ s * q + b * B ^ s := by rw [hh, Int.mul_assoc, Int.add_mul, Int.one_mul, Int.mul_comm q]
    have e3 : V + (r2 + c + 1) * B ^ (s + n) = R % (b * B ^ s) - b * B ^ s + B ^ (s + n) := by rw [Int.add_mul, Int.one_mul]; omega
    obtain ⟨z1, z2⟩ := zero_of V (R % (b * B ^ s) - b * B ^ s + B ^ (s + n)) (r2 + c + 1) hV ⟨by omega, by omega⟩ e3
    refine ⟨by omega, fun V2 c2 hV2 e4 => ?_⟩
    obtain ⟨_, z4⟩ := zero_of V2 (R % (b * B ^ s)) (c2 - 1) hV2 ⟨m0, by omega⟩ (by rw [Int.sub_mul, Int.one_mul]; omega)
    exact z4
/-- the top digits of a row -/
theorem top1 {B : Int} (hB : 0 < B) {l : List Int} (h : Dg B l) {x : Int} {k : Nat} (hk : l.length = k + 1) (e : l[k]? = some x) : val B l / B ^ k = x := by
  rw [val_div hB h k (by omega), val_drop_succ e, show k + 1 = l.length by omega, List.drop_length]
  show x + B * 0 = x
  omega
theorem top2 {B : Int} (hB : 0 < B) {l : List Int} (h : Dg B l) {x y : Int} {k : Nat} (hk : l.length = k + 2) (e : l[k]? = some y) (e1 : l[k + 1]? = some x) : val B l / B ^ k = x * B + y := by
  rw [val_div hB h k (by omega), val_drop_succ e, val_drop_succ e1, show k + 1 + 1 = l.length by omega, List.drop_length]
  show y + B * (x + B * 0) = x * B + y
  rw [Int.mul_zero, Int.add_zero, Int.mul_comm]
  omega
theorem top3 {B : Int} (hB : 0 < B) {l : List Int} (h : Dg B l) {x y z : Int} {k : Nat} (hk : l.length = k + 3) (e : l[k]? = some z) (e1 : l[k + 1]? = some y) (e2 : l[k + 2]? = some x) : val B l / B ^ k = (x * B + y) * B + z := by
  rw [val_div hB h k (by omega), val_drop_succ e, val_drop_succ e1, val_drop_succ e2, show k + 1 + 1 + 1 = l.length by omega, List.drop_length]
  show z + B * (y + B * (x + B * 0)) = (x * B + y) * B + z
  rw [Int.mul_zero, Int.add_zero, Int.mul_comm B x, Int.mul_comm B]
  rw [Int.add_comm y]
  omega
end Ar
set_option Elab.async false
set_option linter.all false
set_option maxRecDepth 100000
set_option maxHeartbeats 4000000
/-! division by one digit; the parts of a step of long division -/
namespace Tb
open PySem PySem.Spec PyProof.Rows L2
variable {P : Program} {wd : World} {K : PySem.W.Frag} {mg : Str → Option Value} {base : Heap}
theorem ixN_nat {n j : Nat} {i : Int} (e : i = (j : Int)) (h : j < n) : ixN n i = some j := by
  subst e
  unfold ixN
  rw [if_pos (by omega), if_pos (by omega)]
  simp
theorem at_end {xs : List V} {v : V} {k : Nat} (hk : 0 < k) (hl : k ≤ xs.length) (h : xs[xs.length - k]? = some v) : atI xs (-(k : Int)) = some v := by
  have e : ixN xs.length (-(k : Int)) = some (xs.length - k) := by
    unfold ixN
    rw [if_neg (by omega), if_pos (by omega)]
    congr 1
    omega
  unfold atI
  rw [e]
  exact h
theorem cdivp {i j : Int} {n : Nat} (hj : 0 < j) (h0 : 0 ≤ i) (h : i < 2 ^ n) (hn : n ≤ 4000) : CDivP i j := by
  refine divp_ok hj ?_
  have := PyProof.Rows.intBits_le (abs_lt' (n := i) (k := n) (by omega))
  omega
def spShortDivided (K : PySem.W.Frag) : Sp := fun vs H Q _ => ∃ (m cA eA t : Addr) (w : Nat) (l : List Int) (d : Int), vs = [.ref m, .ref t, .int d] ∧ Mach K H m cA eA w ∧ H t = some (.tup (l.map V.int)) ∧ Ar.Dg ((2 : Int) ^ w) l ∧ l.length ≤ 1000 ∧ 0 < d ∧ d < 2 ^ w ∧
  ∀ H' Tt p (l2 : List Int) (r : Int), Go cA eA H H' → Mach K H' m cA eA w → H' p = some (.lst (l2.map V.int)) → Ar.Dg ((2 : Int) ^ w) l2 → l2.length = l.length → 0 ≤ r ∧ r < d → Ar.val ((2 : Int) ^ w) l2 * d + r = Ar.val ((2 : Int) ^ w) l → H' Tt = some (.tup [.ref p, .int r]) → Q (.ref Tt) H'
theorem ok_short_divided (T : Tx K mg) : Fn P wd K mg base 2 "short_divided" pShortDivided (spShortDivided K) := by
  have G_enter : Mt P wd K mg base 1 (cM K) "enter" pMEnter (spMEnter K) := ok_enter T
  have G_count : Mt P wd K mg base 1 (cM K) "count" pMCount (spMCount K) := ok_count T
  refine T.d_short_divided.ok scShortDivided (fun vs H Q E h => ?_) (fun f cdv A outer s H vs Q E hr h => ?_)
  · obtain ⟨m, cA, eA, t, w, l, d, rfl, _⟩ := h
    rfl
  · obtain ⟨m, cA, eA, t, w, l, d, rfl, M, ht, hg, hl, hd0, hd1, q⟩ := h
    obtain ⟨dm, lim, h1⟩ := M.ob
    have hB := pwp w
    have h30 := pw30 M.w30
    refine ⟨_, (pss_cons (ps_expr (pe_mt G_enter (hr.mono (by decide)) (pv 0) (pa_cons pe_str (pa_cons (pe_callB call_len_seq (by rfl) T.z_len PySem.boot_len (pa_cons (pv 1) pa_nil)) (pa_cons pe_int pa_nil)))))
        (pss_cons (ps_par (i := 3) (j := 4) (by rfl) scShortDivided.nd rfl rfl (by decide) rfl rfl (pa_cons (pe_op op_rep (pe_lst (pa_cons pe_int pa_nil)) (pe_callB call_len_seq (by rfl) T.z_len PySem.boot_len (pa_cons (pv 1) pa_nil))) (pa_cons pe_int pa_nil)) (by rfl))
        (pss_cons (ps_for PassesOwn.never rfl (pi_range3 (by rfl) T.z_range (pa_cons (pe_op op_sub (pe_callB call_len_seq (by rfl) T.z_len PySem.boot_len (pa_cons (pv 1) pa_nil)) pe_int) (pa_cons (pe_un un_neg pe_int) (pa_cons (pe_un un_neg pe_int) pa_nil)))) (pg_name (i := 5) scShortDivided.nd rfl (.inl rfl)) (pss_one (ps_asg (pe_callB call_divmodW (by rfl) T.z_divmod (by decide +kernel) (pa_cons (pe_op op_orL (pe_op op_shlN (pv 4) (pe_fld (pv 0) rfl)) (pe_ix ix_tup (pv 1) (pv 5) (fun _ _ => rfl))) (pa_cons (pv 2) pa_nil))) (pg_tup (by rfl) (pgs_cons (pg_sub (pv 3) (pv 5) set_list) (pgs_cons (pg_name (i := 4) scShortDivided.nd rfl (.inl rfl)) pgs_nil))))))
        (pss_cons (ps_expr (pe_mt G_count (hr.mono (by decide)) (pv 0) (pa_cons pe_str (pa_cons (pe_callB call_len_seq (by rfl) T.z_len PySem.boot_len (pa_cons (pv 1) pa_nil)) pa_nil))))
        (pss_one (ps_ret (pe_tup (pa_cons (pv 3) (pa_cons (pv 4) pa_nil))))))))), ?_⟩
    refine ⟨_, rfl, m, dm, _, rfl, h1, mf_enter, _, rfl, t, _, rfl, .inr (SqT.of ht), m, cA, eA, w, _, _, _, rfl, M, fun H1 g1 M1 => ?_⟩
    have ht1 := g1.tup M ht
    refine ⟨by show 1 ≤ sizeLine; decide, fun p0 np0 => ?_⟩
    have s0 : Same H1 (upd H1 p0 (.lst [.int 0])) := Same.new np0
    refine ⟨_, rfl, t, _, rfl, .inr (SqT.of (s0 _ _ ht1)), p0, _, _, rfl, rfl, upd_same, by omega, by rw [List.length_map]; omega, by rw [List.length_map]; exact szl (by show 1 * _ ≤ _; omega), fun p np => ⟨_, _, rfl, ?_⟩⟩
    have s1 : Same H1 (upd (upd H1 p0 (.lst [.int 0])) p (.lst (List.replicate (((l.map V.int).length : Nat) : Int).toNat [V.int 0]).flatten)) := s0.trans (Same.new np)
    have np1 : H1 p = none := s0.free np
    have npH : H p = none := g1.free M M1 np1
    have erep : (List.replicate (((l.map V.int).length : Nat) : Int).toNat [V.int 0]).flatten = (List.replicate l.length (0 : Int)).map V.int := by
      rw [List.length_map, Int.toNat_natCast, List.map_replicate]
      induction l.length with
      | zero => rfl
      | succ k ih => rw [List.replicate_succ, List.flatten_cons, ih, List.replicate_succ]; rfl
    refine ⟨_, rfl, t, _, rfl, .inr (SqT.of (s1 _ _ ht1)), _, _, rfl, rfl, _, rfl, _, rfl, _, _, _, _, rfl, RgC.neg (by rw [List.length_map]; omega) (by rw [List.length_map]; omega) (by decide) (by decide), for_rangeC (fun i σ H' => ∃ (f : List Int) (r : Int) (pl : Option V), σ = [some (.ref m), some (.ref t), some (.int d), some (.ref p), some (.int r), pl] ∧ Same H1 H' ∧ H' p = some (.lst (f.map V.int)) ∧ Ar.Dg ((2 : Int) ^ w) f ∧ f.length = l.length ∧ (0 ≤ r ∧ r < d) ∧ Ar.val ((2 : Int) ^ w) (f.drop (l.length - i)) * d + r = Ar.val ((2 : Int) ^ w) (l.drop (l.length - i)))
      ⟨List.replicate l.length 0, 0, none, rfl, s1, by rw [upd_same, erep], Ar.Dg.rep hB _, List.length_replicate, ⟨Int.le_refl _, hd0⟩, by rw [Nat.sub_zero, List.drop_length, List.drop_of_length_le (by rw [List.length_replicate]; exact Nat.le_refl _)]; simp [Ar.val]⟩ ?_ ?_⟩
    · rintro i σ H' hi ⟨f, r, pl, rfl, s2, hp, hg2, hfl, hrr, hv⟩
      have hi : i < l.length := by
        rw [List.length_map] at hi
        omega
      have hk : l.length - (i + 1) < l.length := by omega
      have gl := List.getElem?_eq_getElem hk
      have dd := hg.at gl
      have hdv := Ar.val_drop_succ (B := (2 : Int) ^ w) gl
      rw [show l.length - (i + 1) + 1 = l.length - i by omega] at hdv
      have b5 := Ar.low_bound hB hd0 dd hrr
      obtain ⟨b0, b1, b2, b3, b4⟩ := b5
      have hM := M1.same s2
      obtain ⟨dm2, lim2, h2⟩ := hM.ob
      have ep : (((l.map V.int).length : Int) - 1 + (i : Nat) * (-1)) = ((l.length - (i + 1) : Nat) : Int) := by
        rw [List.length_map]
        omega
      have hr30 : r < 2 ^ 30 := by
        have e30 : (2 : Int) ^ 30 = 1073741824 := by decide
        omega
      have hx : r * 2 ^ w + l[l.length - (i + 1)] < 2 ^ 60 := by
        have a1 : r * 2 ^ w ≤ (2 ^ w - 1) * 2 ^ w := Int.mul_le_mul_of_nonneg_right (by omega) (Int.le_of_lt hB)
        have a2 : ((2 : Int) ^ w - 1) * 2 ^ w = 2 ^ w * 2 ^ w - 2 ^ w := by rw [Int.sub_mul, Int.one_mul]
        have a3 : (2 : Int) ^ w * 2 ^ w ≤ 1073741824 * 1073741824 := Int.mul_le_mul h30 h30 (Int.le_of_lt hB) (by decide)
        have e60 : (2 : Int) ^ 60 = 1073741824 * 1073741824 := by decide
        omega
      refine ⟨_, rfl, _, rfl, m, _, dm2, _, _, rfl, h2, T.clM, T.nM_width, mf_width, r, w, rfl, rfl, sm_cshl (n := 30) hrr.1 hr30 (by have := M.w30; omega), _, rfl, _, rfl, t, _, _, _, rfl, rfl, SqT.of (s2 _ _ ht1), at_of (j := l.length - (i + 1)) ep (mapint_get gl), _, _, w, rfl, rfl, ⟨hrr.1, dd.1, dd.2⟩, ?_⟩
      refine ⟨_, rfl, _, _, rfl, cdivp hd0 b0 hx (by omega), fun Tt nT => ⟨Tt, _, rfl, SqT.of upd_same, rfl, _, _, rfl, ?_⟩⟩
      have s3 : Same H1 (upd H' Tt (.tup [.int ((r * 2 ^ w + l[l.length - (i + 1)]) / d), .int ((r * 2 ^ w + l[l.length - (i + 1)]) % d)])) := s2.trans (Same.new nT)
      have hp3 : (upd H' Tt (.tup [.int ((r * 2 ^ w + l[l.length - (i + 1)]) / d), .int ((r * 2 ^ w + l[l.length - (i + 1)]) % d)])) p = some (.lst (f.map V.int)) := Same.new nT _ _ hp
      refine ⟨_, rfl, _, rfl, p, _, _, l.length - (i + 1), rfl, rfl, hp3, ixN_nat ep (by rw [List.length_map]; omega), _, _, rfl, rfl, ?_⟩
      refine ⟨f.set (l.length - (i + 1)) ((r * 2 ^ w + l[l.length - (i + 1)]) / d), _, _, rfl, Same.mut s3 np1, by rw [upd_same, List.map_set], hg2.set ⟨b1, b2⟩, by rw [List.length_set]; exact hfl, ⟨b3, b4⟩, ?_⟩
      rw [Ar.val_drop_set _ (by omega), show l.length - (i + 1) + 1 = l.length - i by omega, hdv, ← hv]
      have e := Int.emod_add_mul_ediv (r * 2 ^ w + l[l.length - (i + 1)]) d
      rw [Int.add_mul, Int.mul_add, Int.mul_comm _ d, Int.mul_assoc, Int.mul_comm ((2 : Int) ^ w) r]
      omega
    · rintro σ H' ⟨f, r, pl, rfl, s2, hp, hg2, hfl, hrr, hv⟩
      have en : (((((l.map V.int).length : Nat) : Int) - 1 - -1).toNat) = l.length := by
        rw [List.length_map]
        omega
      rw [en, Nat.sub_self, List.drop_zero, List.drop_zero] at hv
      have hM := M1.same s2
      obtain ⟨dm2, lim2, h2⟩ := hM.ob
      refine ⟨_, rfl, m, dm2, _, rfl, h2, mf_count, _, rfl, t, _, rfl, .inr (SqT.of (s2 _ _ ht1)), m, cA, eA, w, "quotient", _, rfl, hM, by decide +kernel, fun H4 g4 M4 => ?_⟩
      have hp2 := g4.lst hM hp (M.ne npH)
      refine ⟨_, rfl, _, rfl, by show 2 ≤ sizeLine; decide, fun Tt nT => ?_⟩
      have s5 : Same H4 (upd H4 Tt (.tup [.ref p, .int r])) := Same.new nT
      exact q _ Tt p f r (((g1.same s2).trans g4).same s5) (M4.same s5) (s5 _ _ hp2) hg2 hfl hrr hv upd_same
def spShortRest (K : PySem.W.Frag) : Sp := fun vs H Q _ => ∃ (m cA eA t : Addr) (w : Nat) (l : List Int) (d : Int), vs = [.ref m, .ref t, .int d] ∧ Mach K H m cA eA w ∧ H t = some (.tup (l.map V.int)) ∧ Ar.Dg ((2 : Int) ^ w) l ∧ l.length ≤ 1000 ∧ 0 < d ∧ d < 2 ^ w ∧
  ∀ H', Go cA eA H H' → Mach K H' m cA eA w → Q (.int (Ar.val ((2 : Int) ^ w) l % d)) H'
theorem ok_short_rest (T : Tx K mg) : Fn P wd K mg base 2 "short_rest" pShortRest (spShortRest K) := by
  have G_enter : Mt P wd K mg base 1 (cM K) "enter" pMEnter (spMEnter K) := ok_enter T
  have G_count : Mt P wd K mg base 1 (cM K) "count" pMCount (spMCount K) := ok_count T
  refine T.d_short_rest.ok scShortRest (fun vs H Q E h => ?_) (fun f cdv A outer s H vs Q E hr h => ?_)
  · obtain ⟨m, cA, eA, t, w, l, d, rfl, _⟩ := h
    rfl
  · obtain ⟨m, cA, eA, t, w, l, d, rfl, M, ht, hg, hl, hd0, hd1, q⟩ := h
    obtain ⟨dm, lim, h1⟩ := M.ob
    have hB := pwp w
    have h30 := pw30 M.w30
    refine ⟨_, (pss_cons (ps_expr (pe_mt G_enter (hr.mono (by decide)) (pv 0) (pa_cons pe_str (pa_cons (pe_callB call_len_seq (by rfl) T.z_len PySem.boot_len (pa_cons (pv 1) pa_nil)) (pa_cons pe_int pa_nil)))))
        (pss_cons (ps_set (i := 3) scShortRest.nd rfl (.inl rfl) pe_int)
        (pss_cons (ps_for PassesOwn.never rfl (pi_tup (pe_revT (pv 1))) (pg_name (i := 4) scShortRest.nd rfl (.inl rfl)) (pss_one (ps_set (i := 3) scShortRest.nd rfl (.inl rfl) (pe_op op_mod (pe_op op_orL (pe_op op_shlN (pv 3) (pe_fld (pv 0) rfl)) (pv 4)) (pv 2)))))
        (pss_cons (ps_expr (pe_mt G_count (hr.mono (by decide)) (pv 0) (pa_cons pe_str (pa_cons (pe_callB call_len_seq (by rfl) T.z_len PySem.boot_len (pa_cons (pv 1) pa_nil)) pa_nil))))
        (pss_one (ps_ret (pv 3))))))), ?_⟩
    refine ⟨_, rfl, m, dm, _, rfl, h1, mf_enter, _, rfl, t, _, rfl, .inr (SqT.of ht), m, cA, eA, w, _, _, _, rfl, M, fun H1 g1 M1 => ?_⟩
    have ht1 := g1.tup M ht
    refine ⟨_, rfl, t, _, rfl, SqT.of ht1, fun v nv => ⟨v, rfl, ⟨_, SqT.of upd_same⟩, ?_⟩⟩
    have s1 : Same H1 (upd H1 v (.tup (l.map V.int).reverse)) := Same.new nv
    refine for_tup (xs := (l.map V.int).reverse) (fun i σ H' => H' = upd H1 v (.tup (l.map V.int).reverse) ∧ ∃ dd, σ = [some (.ref m), some (.ref t), some (.int d), some (.int (Ar.val ((2 : Int) ^ w) (l.drop (l.length - i)) % d)), dd]) ⟨rfl, none, by rw [Nat.sub_zero, List.drop_length]; rfl⟩ (fun i σ H' _ h => by rw [h.1]; exact SqT.of upd_same) ?_ ?_
    · rintro i y σ H' hy ⟨rfl, d0, rfl⟩
      have hi : i < l.length := by
        have := (List.getElem?_eq_some_iff.mp hy).1
        rw [List.length_reverse, List.length_map] at this
        exact this
      rw [List.getElem?_reverse (by rw [List.length_map]; exact hi), List.length_map] at hy
      obtain ⟨c, hc, rfl⟩ := mapint_of hy
      have hc1 : l[l.length - (i + 1)]? = some c := by rw [← hc]; congr 1; omega
      have hv := Ar.val_drop_succ (B := (2 : Int) ^ w) hc1
      rw [show l.length - (i + 1) + 1 = l.length - i by omega] at hv
      have cd := hg.at hc
      have m0 := Int.emod_nonneg (Ar.val ((2 : Int) ^ w) (l.drop (l.length - i))) (Int.ne_of_gt hd0)
      have m1 := Int.emod_lt_of_pos (Ar.val ((2 : Int) ^ w) (l.drop (l.length - i))) hd0
      obtain ⟨dm2, lim2, h2⟩ := (M1.same s1).ob
      have e30 : (2 : Int) ^ 30 = 1073741824 := by decide
      refine ⟨_, rfl, _, rfl, m, _, dm2, _, _, rfl, h2, T.clM, T.nM_width, mf_width, _, w, rfl, rfl, sm_cshl (n := 30) m0 (by omega) (by have := M.w30; omega), _, rfl, _, _, w, rfl, rfl, ⟨m0, cd.1, cd.2⟩, _, rfl, _, _, rfl, rfl, hd0, rfl, some (.int c), ?_⟩
      rw [hv]
      have e : (Ar.val ((2 : Int) ^ w) (l.drop (l.length - i)) % d * 2 ^ w + c) % d = (c + 2 ^ w * Ar.val ((2 : Int) ^ w) (l.drop (l.length - i))) % d := by
        rw [Int.add_comm, Int.add_emod, Int.mul_emod, Int.emod_emod, ← Int.mul_emod, ← Int.add_emod, Int.mul_comm]
      rw [← e]
      rfl
    · rintro σ H' ⟨rfl, d0, rfl⟩
      rw [List.length_reverse, List.length_map, Nat.sub_self, List.drop_zero]
      have hM := M1.same s1
      obtain ⟨dm2, lim2, h2⟩ := hM.ob
      refine ⟨_, rfl, m, dm2, _, rfl, h2, mf_count, _, rfl, t, _, rfl, .inr (SqT.of (s1 _ _ ht1)), m, cA, eA, w, "quotient", _, rfl, hM, by decide +kernel, fun H4 g4 M4 => ?_⟩
      exact ⟨_, rfl, q H4 ((g1.same s1).trans g4) M4⟩
/-! ### long division: the guess -/
def spGuessed (K : PySem.W.Frag) : Sp := fun vs H Q _ => ∃ (m cA eA r bb : Addr) (w s : Nat) (room bl : List Int) (r2 r1 r0 v1 v0 : Int), vs = [.ref m, .ref r, .int (s : Int), .ref bb] ∧ Mach K H m cA eA w ∧ H r = some (.lst (room.map V.int)) ∧ H bb = some (.lst (bl.map V.int)) ∧ Ar.Dg ((2 : Int) ^ w) room ∧ Ar.Dg ((2 : Int) ^ w) bl ∧ 2 ≤ bl.length ∧
  room[s + bl.length]? = some r2 ∧ room[s + bl.length - 1]? = some r1 ∧ room[s + bl.length - 2]? = some r0 ∧ bl[bl.length - 1]? = some v1 ∧ bl[bl.length - 2]? = some v0 ∧ 0 < v1 ∧ (r2 * 2 ^ w + r1) / v1 ≤ 2 ^ w + 1 ∧ ((r2 * 2 ^ w + r1) * 2 ^ w + r0) / (v1 * 2 ^ w + v0) ≤ (r2 * 2 ^ w + r1) / v1 ∧
  ∀ H' Tt, Same H H' → H' Tt = some (.tup [.int ((r2 * 2 ^ w + r1) / v1), .int ((r2 * 2 ^ w + r1) / v1 - ((r2 * 2 ^ w + r1) * 2 ^ w + r0) / (v1 * 2 ^ w + v0)), .int (((r2 * 2 ^ w + r1) * 2 ^ w + r0) / (v1 * 2 ^ w + v0))]) → Q (.ref Tt) H'
theorem ok_guessed (T : Tx K mg) : Fn P wd K mg base 1 "guessed" pGuessed (spGuessed K) := by
  refine T.d_guessed.ok scGuessed (fun vs H Q E h => ?_) (fun f cdv A outer s H vs Q E hr h => ?_)
  · obtain ⟨m, cA, eA, r, bb, w, s, room, bl, r2, r1, r0, v1, v0, rfl, _⟩ := h
    rfl
  · obtain ⟨m, cA, eA, r, bb, w, s, room, bl, r2, r1, r0, v1, v0, rfl, M, hr0, hb0, hgr, hgb, hn, er2, er1, er0, ev1, ev0, hv1, hgB, hhg, q⟩ := h
    obtain ⟨dm, lim, h1⟩ := M.ob
    have hB := pwp w
    have h30 := pw30 M.w30
    have w30 := M.w30
    have d2 := hgr.at er2
    have d1 := hgr.at er1
    have d0 := hgr.at er0
    have c1 := hgb.at ev1
    have c0 := hgb.at ev0
    have e30 : (2 : Int) ^ 30 = 1073741824 := by decide
    have e60 : (2 : Int) ^ 60 = 1073741824 * 1073741824 := by decide
    have hu0 : 0 ≤ r2 * 2 ^ w + r1 := by
      have := Int.mul_nonneg d2.1 (Int.le_of_lt hB)
      omega
    have hu1 : r2 * 2 ^ w + r1 < 2 ^ 60 := by
      have a1 : r2 * 2 ^ w ≤ (2 ^ w - 1) * 2 ^ w := Int.mul_le_mul_of_nonneg_right (by omega) (Int.le_of_lt hB)
      have a2 : ((2 : Int) ^ w - 1) * 2 ^ w = 2 ^ w * 2 ^ w - 2 ^ w := by rw [Int.sub_mul, Int.one_mul]
      have a3 : (2 : Int) ^ w * 2 ^ w ≤ 1073741824 * 1073741824 := Int.mul_le_mul h30 h30 (Int.le_of_lt hB) (by decide)
      omega
    have hg0 : 0 ≤ (r2 * 2 ^ w + r1) / v1 := Int.ediv_nonneg hu0 (Int.le_of_lt hv1)
    have hv2 : 0 < v1 * 2 ^ w + v0 := by
      have := Int.mul_pos hv1 hB
      omega
    have hh0 : 0 ≤ ((r2 * 2 ^ w + r1) * 2 ^ w + r0) / (v1 * 2 ^ w + v0) := by
      apply Int.ediv_nonneg _ (Int.le_of_lt hv2)
      have := Int.mul_nonneg hu0 (Int.le_of_lt hB)
      omega
    have em := Int.emod_add_mul_ediv (r2 * 2 ^ w + r1) v1
    have em0 := Int.emod_nonneg (r2 * 2 ^ w + r1) (Int.ne_of_gt hv1)
    -- g, h: the first guess, the last one
    have hle : ∀ x : Int, ((r2 * 2 ^ w + r1) * 2 ^ w + r0) / (v1 * 2 ^ w + v0) < x ↔ (r2 * 2 ^ w + r1) * 2 ^ w + r0 < x * (v1 * 2 ^ w + v0) := fun x => Int.ediv_lt_iff_lt_mul hv2
    generalize hgd : (r2 * 2 ^ w + r1) / v1 = g at *
    generalize hhd : ((r2 * 2 ^ w + r1) * 2 ^ w + r0) / (v1 * 2 ^ w + v0) = hh at *
    generalize hud : r2 * 2 ^ w + r1 = u at *
    refine ⟨_, (pss_cons (ps_set (i := 4) scGuessed.nd rfl (.inl rfl) (pe_callB call_len_seq (by rfl) T.z_len PySem.boot_len (pa_cons (pv 3) pa_nil)))
        (pss_cons (ps_asg (pe_callB call_divmodW (by rfl) T.z_divmod (by decide +kernel) (pa_cons (pe_op op_orL (pe_op op_shlN (pe_ix ix_list (pv 1) (pe_op op_add (pv 2) (pv 4)) (fun _ _ => rfl)) (pe_fld (pv 0) rfl)) (pe_ix ix_list (pv 1) (pe_op op_sub (pe_op op_add (pv 2) (pv 4)) pe_int) (fun _ _ => rfl))) (pa_cons (pe_ix ix_list (pv 3) (pe_un un_neg pe_int) (fun _ _ => rfl)) pa_nil))) (pg_tup (by rfl) (pgs_cons (pg_name (i := 5) scGuessed.nd rfl (.inl rfl)) (pgs_cons (pg_name (i := 6) scGuessed.nd rfl (.inl rfl)) pgs_nil))))
        (pss_cons (ps_set (i := 7) scGuessed.nd rfl (.inl rfl) pe_int)
        (pss_cons (ps_while PassesOwn.never (PW.pt (pw_and (pt_cmpR op_lt (pv 6) (pe_fld (pv 0) rfl) (nomark _)) (pw_and1 (pt_cmpR op_gt (pe_op op_mul (pe_ix ix_list (pv 3) (pe_un un_neg pe_int) (fun _ _ => rfl)) (pe_op op_sub (pv 5) (pv 7))) (pe_op op_orL (pe_op op_shlN (pv 6) (pe_fld (pv 0) rfl)) (pe_ix ix_list (pv 1) (pe_op op_sub (pe_op op_add (pv 2) (pv 4)) pe_int) (fun _ _ => rfl))) (nomark _))))) (pss_cons (ps_set (i := 7) scGuessed.nd rfl (.inl rfl) (pe_op op_add (pv 7) pe_int))
        (pss_one (ps_set (i := 6) scGuessed.nd rfl (.inl rfl) (pe_op op_add (pv 6) (pe_ix ix_list (pv 3) (pe_un un_neg pe_int) (fun _ _ => rfl)))))))
        (pss_one (ps_ret (pe_tup (pa_cons (pv 5) (pa_cons (pv 7) (pa_cons (pe_op op_sub (pv 5) (pv 7)) pa_nil)))))))))), ?_⟩
    refine ⟨_, rfl, bb, _, rfl, .inl (SqL.of hb0), ?_⟩
    have elen : ((bl.map V.int).length : Int) = (bl.length : Int) := by rw [List.length_map]
    refine ⟨_, rfl, _, rfl, _, rfl, _, _, rfl, rfl, r, _, _, .int r2, rfl, rfl, SqL.of hr0, at_of (j := s + bl.length) (by rw [elen]; omega) (mapint_get er2), _, rfl, m, _, dm, _, _, rfl, h1, T.clM, T.nM_width, mf_width, r2, w, rfl, rfl, sm_cshl (n := 30) d2.1 (by omega) (by omega), ?_⟩
    refine ⟨_, rfl, _, rfl, _, rfl, _, _, rfl, rfl, _, _, rfl, rfl, r, _, _, .int r1, rfl, rfl, SqL.of hr0, at_of (j := s + bl.length - 1) (by rw [elen]; omega) (mapint_get er1), r2, r1, w, rfl, rfl, ⟨d2.1, d1.1, d1.2⟩, ?_⟩
    refine ⟨_, rfl, 1, rfl, bb, _, _, .int v1, rfl, rfl, SqL.of hb0, at_end (k := 1) (by decide) (by rw [List.length_map]; omega) (by rw [List.length_map]; exact mapint_get ev1), ?_⟩
    rw [hud]
    refine ⟨u, v1, rfl, cdivp hv1 hu0 hu1 (by omega), fun Tt nT => ⟨Tt, _, rfl, SqT.of upd_same, rfl, _, _, rfl, _, _, rfl, rfl, ?_⟩⟩
    rw [hgd]
    have s1 : Same H (upd H Tt (.tup [.int g, .int (u % v1)])) := Same.new nT
    generalize upd H Tt (HO.tup [V.int g, V.int (u % v1)]) = H1 at s1
    have h1' := s1 _ _ h1
    have hr1 := s1 _ _ hr0
    have hb1 := s1 _ _ hb0
    refine ⟨fun n σ H' => ∃ c : Int, n = (g - c - hh).toNat ∧ σ = [some (.ref m), some (.ref r), some (.int (s : Int)), some (.ref bb), some (.int ((bl.map V.int).length : Int)), some (.int g), some (.int (u - (g - c) * v1)), some (.int c)] ∧ H' = H1 ∧ 0 ≤ c ∧ hh ≤ g - c,
      ⟨(g - 0 - hh).toNat, 0, rfl, by rw [show u % v1 = u - (g - 0) * v1 by rw [Int.sub_zero, Int.mul_comm]; omega]; rfl, rfl, Int.le_refl _, by omega⟩, ?_⟩
    rintro n σ H' ⟨c, rfl, rfl, rfl, hc0, hhc⟩
    have hrest0 : 0 ≤ u - (g - c) * v1 := by
      have a1 : (g - c) * v1 ≤ g * v1 := Int.mul_le_mul_of_nonneg_right (by omega) (Int.le_of_lt hv1)
      rw [Int.mul_comm g] at a1
      omega
    -- the end
    have fin : hh = g - c → ∀ Q2 : VK, Q2 = Q → ∀ Tt2, H' Tt2 = none → Q2 (.ref Tt2) (upd H' Tt2 (.tup [.int g, .int c, .int (g - c)])) := fun e Q2 eQ Tt2 nT2 => by
      subst eQ
      refine q _ Tt2 (s1.trans (Same.new nT2)) ?_
      rw [upd_same, e, show g - (g - c) = c by omega]
    refine ⟨_, rfl, _, rfl, m, _, dm, _, _, rfl, h1', T.clM, T.nM_base, mf_base, _, _, rfl, rfl, _, rfl, ite2 (fun hlt => ?_) (fun hlt => ?_)⟩
    · have hlt : u - (g - c) * v1 < 2 ^ w := of_decide_eq_true hlt
      refine ⟨_, rfl, 2, rfl, bb, _, _, .int v0, rfl, rfl, SqL.of hb1, at_end (k := 2) (by decide) (by rw [List.length_map]; omega) (by rw [List.length_map]; exact mapint_get ev0), _, rfl, _, rfl, _, _, rfl, rfl, v0, g - c, rfl, rfl, .inl ⟨by omega, by omega⟩, ?_⟩
      refine ⟨_, rfl, _, rfl, m, _, dm, _, _, rfl, h1', T.clM, T.nM_width, mf_width, u - (g - c) * v1, w, rfl, rfl, sm_cshl (n := 30) hrest0 (by omega) (by omega), ?_⟩
      refine ⟨_, rfl, _, rfl, _, rfl, _, _, rfl, rfl, _, _, rfl, rfl, r, _, _, .int r0, rfl, rfl, SqL.of hr1, at_of (j := s + bl.length - 2) (by rw [elen]; omega) (mapint_get er0), u - (g - c) * v1, r0, w, rfl, rfl, ⟨hrest0, d0.1, d0.2⟩, _, _, rfl, rfl, _, rfl, ite2 (fun ht => ?_) (fun ht => ?_)⟩
      · have ht : (u - (g - c) * v1) * 2 ^ w + r0 < v0 * (g - c) := of_decide_eq_true ht
        have h2 : hh < g - c := (hle _).mpr (Ar.corr_test.mp ht)
        refine ⟨fun σ2 H2 => σ2 = [some (.ref m), some (.ref r), some (.int (s : Int)), some (.ref bb), some (.int ((bl.map V.int).length : Int)), some (.int g), some (.int (u - (g - (c + 1)) * v1)), some (.int (c + 1))] ∧ H2 = H', fun σ2 H2 h => ?_, ?_⟩
        · obtain ⟨rfl, rfl⟩ := h
          exact ⟨_, by omega, c + 1, rfl, rfl, rfl, by omega, by omega⟩
        · refine ⟨_, rfl, _, _, rfl, rfl, ?_⟩
          refine ⟨_, rfl, _, rfl, 1, rfl, bb, _, _, .int v1, rfl, rfl, SqL.of hb1, at_end (k := 1) (by decide) (by rw [List.length_map]; omega) (by rw [List.length_map]; exact mapint_get ev1), _, _, rfl, rfl, ?_, rfl⟩
          rw [show u - (g - (c + 1)) * v1 = u - (g - c) * v1 + v1 by rw [show g - (c + 1) = g - c - 1 by omega, Int.sub_mul (g - c), Int.one_mul]; omega]
          rfl
      · have ht : ¬ (u - (g - c) * v1) * 2 ^ w + r0 < v0 * (g - c) := fun z => ht (decide_eq_true z)
        have h2 : ¬ hh < g - c := fun z => ht (Ar.corr_test.mpr ((hle _).mp z))
        refine ⟨_, rfl, _, rfl, _, rfl, _, rfl, _, _, rfl, rfl, by show 3 ≤ sizeLine; decide, fun Tt2 nT2 => ?_⟩
        exact fin (by omega) _ rfl Tt2 nT2
    · have hlt : ¬ u - (g - c) * v1 < 2 ^ w := fun z => hlt (decide_eq_true z)
      have ht := Ar.corr_end (B := (2 : Int) ^ w) c0 (g := g - c) (by omega) (by omega) (r := u - (g - c) * v1) (by omega) d0.1 hB
      have h2 : ¬ hh < g - c := fun z => ht (Ar.corr_test.mpr ((hle _).mp z))
      refine ⟨_, rfl, _, rfl, _, rfl, _, rfl, _, _, rfl, rfl, by show 3 ≤ sizeLine; decide, fun Tt2 nT2 => ?_⟩
      exact fin (by omega) _ rfl Tt2 nT2
end Tb
set_option Elab.async false
set_option linter.all false
set_option maxRecDepth 100000
set_option maxHeartbeats 4000000
/-! a step of long division -/
namespace Tb
open PySem PySem.Spec PyProof.Rows L2
variable {P : Program} {wd : World} {K : PySem.W.Frag} {mg : Str → Option Value} {base : Heap}
/-- all but the list at r is as it was -/
def But (r : Addr) (H H' : Hp) : Prop := ∀ b o, H b = some o → b ≠ r → H' b = some o
def spRowOp (K : PySem.W.Frag) (sg : Int) : Sp := fun vs H Q _ => ∃ (m cA eA r bb : Addr) (w s : Nat) (room bl : List Int) (q : Int), (vs = [.ref m, .ref r, .int (s : Int), .ref bb, .int q] ∧ sg = -1 ∨ vs = [.ref m, .ref r, .int (s : Int), .ref bb] ∧ sg = 1 ∧ q = 1) ∧ Mach K H m cA eA w ∧ H r = some (.lst (room.map V.int)) ∧ r ≠ eA ∧ H bb = some (.lst (bl.map V.int)) ∧ r ≠ bb ∧
  Ar.Dg ((2 : Int) ^ w) room ∧ Ar.Dg ((2 : Int) ^ w) bl ∧ s + bl.length < room.length ∧ 0 ≤ q ∧ q ≤ 2 ^ w + 1 ∧
  ∀ H' (c : Int) (room' : List Int), But r H H' → H' r = some (.lst (room'.map V.int)) → Ar.Dg ((2 : Int) ^ w) room' → room'.length = room.length → (∀ i, s + bl.length ≤ i → room'[i]? = room[i]?) →
    Ar.val ((2 : Int) ^ w) (room'.take (s + bl.length)) + c * ((2 : Int) ^ w) ^ (s + bl.length) = Ar.val ((2 : Int) ^ w) (room.take (s + bl.length)) + sg * q * Ar.val ((2 : Int) ^ w) bl * ((2 : Int) ^ w) ^ s → Q (if sg = 1 then .non else .int c) H'
def spTakeProduct (K : PySem.W.Frag) : Sp := fun vs H Q E => vs.length = 5 ∧ spRowOp K (-1) vs H Q E
def spPutBack (K : PySem.W.Frag) : Sp := fun vs H Q E => vs.length = 4 ∧ spRowOp K 1 vs H Q E
theorem But.mach {r m cA eA : Addr} {w : Nat} {H H' : Hp} {xs : List V} (b : But r H H') (M : Mach K H m cA eA w) (hr : H r = some (.lst xs)) (hre : r ≠ eA) : Mach K H' m cA eA w := by
  obtain ⟨⟨dx, lim, h1⟩, ⟨kvs, h2, h3⟩, ⟨es, h4, h5⟩, h6, h7⟩ := M
  exact ⟨⟨dx, lim, b _ _ h1 (ne_of h1 hr (by intro z; cases z))⟩, ⟨kvs, b _ _ h2 (ne_of h2 hr (by intro z; cases z)), h3⟩, ⟨es, b _ _ h4 hre.symm, h5⟩, h6, h7⟩
theorem But.new {r p : Addr} {H H1 : Hp} {o : HO} (b : But r H H1) (hp : H1 p = none) : But r H (upd H1 p o) := fun c u e h => Same.new hp _ _ (b c u e h)
theorem But.wr {r : Addr} {H H1 : Hp} {o : HO} (b : But r H H1) : But r H (upd H1 r o) := fun c u e h => by
  rw [upd_ne h]
  exact b c u e h
theorem But.refl {r : Addr} {H : Hp} : But r H H := fun _ _ e _ => e
theorem ok_take_product (T : Tx K mg) : Fn P wd K mg base 1 "take_product" pTakeProduct (spTakeProduct K) := by
  refine T.d_take_product.ok scTakeProduct (fun vs H Q E h => h.1) (fun f cdv A outer s0 H vs Q E hr h => ?_)
  obtain ⟨hl5, m, cA, eA, r, bb, w, s, room, bl, q, hvs, M, hr0, hre, hb0, hrb, hgr, hgb, hsn, hq0, hq1, k⟩ := h
  rcases hvs with ⟨rfl, _⟩ | ⟨rfl, _, _⟩
  · obtain ⟨dm, lim, h1⟩ := M.ob
    have hB := pwp w
    have h30 := pw30 M.w30
    refine ⟨_, (pss_cons (ps_set (i := 5) scTakeProduct.nd rfl (.inl rfl) pe_int)
        (pss_cons (ps_for PassesOwn.never rfl (pi_enum (by rfl) T.z_enumerate (pa_cons (pv 3) pa_nil)) (pg_tup (by rfl) (pgs_cons (pg_name (i := 6) scTakeProduct.nd rfl (.inl rfl)) (pgs_cons (pg_name (i := 7) scTakeProduct.nd rfl (.inl rfl)) pgs_nil))) (pss_cons (ps_set (i := 5) scTakeProduct.nd rfl (.inl rfl) (pe_op op_sub (pe_op op_add (pe_ix ix_list (pv 1) (pe_op op_add (pv 2) (pv 6)) (fun _ _ => rfl)) (pv 5)) (pe_op op_mul (pv 4) (pv 7))))
        (pss_cons (ps_asg (pe_op op_mod (pv 5) (pe_fld (pv 0) rfl)) (pg_sub (pv 1) (pe_op op_add (pv 2) (pv 6)) set_list))
        (pss_one (ps_set (i := 5) scTakeProduct.nd rfl (.inl rfl) (pe_op op_shrN (pv 5) (pe_fld (pv 0) rfl)))))))
        (pss_one (ps_ret (pv 5))))), ?_⟩
    refine ⟨_, rfl, bb, _, rfl, SqL.of hb0, for_it (walk_enum (a := bb) (xs := bl.map V.int)) (fun i σ H2 => ∃ (l : List Int) (c : Int) (d1 d2 : Option V), σ = [some (.ref m), some (.ref r), some (.int (s : Int)), some (.ref bb), some (.int q), some (.int c), d1, d2] ∧ But r H H2 ∧ H2 r = some (.lst (l.map V.int)) ∧ Ar.Dg ((2 : Int) ^ w) l ∧ l.length = room.length ∧ (∀ j, s + i ≤ j → l[j]? = room[j]?) ∧ Ar.val ((2 : Int) ^ w) (l.take (s + i)) + c * ((2 : Int) ^ w) ^ (s + i) = Ar.val ((2 : Int) ^ w) (room.take (s + i)) + -1 * q * Ar.val ((2 : Int) ^ w) (bl.take i) * ((2 : Int) ^ w) ^ s)
      ⟨room, 0, none, none, rfl, But.refl, hr0, hgr, rfl, fun _ _ => rfl, by simp [Ar.val]⟩ (fun i σ H2 _ ⟨_, _, _, _, _, b2, _⟩ => SqL.of (b2 _ _ hb0 hrb.symm)) ?_ ?_⟩
    · rintro i y σ H2 H3 hi ⟨l, c, d1, d2, rfl, b2, hp, hg, hll, hout, hv⟩ ⟨Tt, x1, x2, rfl, nT, rfl, e1, e2⟩
      have e1 : x1 = .int (i : Int) := (Option.some.inj e1).symm
      subst e1
      obtain ⟨d, hd, rfl⟩ := mapint_of e2
      have hib := (List.getElem?_eq_some_iff.mp hd).1
      have dd := hgb.at hd
      have b3 : But r H (upd H2 Tt (.tup [.int (i : Int), .int d])) := b2.new nT
      have hp3 : (upd H2 Tt (.tup [.int (i : Int), .int d])) r = some (.lst (l.map V.int)) := Same.new nT _ _ hp
      obtain ⟨dm2, lim2, h2⟩ := (b3.mach M hr0 hre).ob
      have hk : s + i < l.length := by omega
      have gl := List.getElem?_eq_getElem hk
      refine ⟨Tt, _, rfl, SqT.of upd_same, rfl, _, _, rfl, _, _, rfl, rfl, ?_⟩
      refine ⟨_, rfl, _, rfl, _, rfl, _, _, rfl, rfl, r, _, _, .int l[s + i], rfl, rfl, SqL.of hp3, at_of (j := s + i) (by omega) (mapint_get gl), _, rfl, _, _, rfl, rfl, _, rfl, _, rfl, q, d, rfl, rfl, .inl ⟨by omega, by omega⟩, _, _, rfl, rfl, ?_⟩
      refine ⟨_, rfl, _, rfl, m, _, dm2, _, _, rfl, h2, T.clM, T.nM_base, mf_base, _, _, rfl, rfl, hB, _, rfl, _, rfl, _, rfl, _, _, rfl, rfl, r, _, _, s + i, rfl, rfl, hp3, ixN_nat (by omega) (by rw [List.length_map]; exact hk), ?_⟩
      have b4 : But r H (upd (upd H2 Tt (.tup [.int (i : Int), .int d])) r (.lst ((l.map V.int).set (s + i) (.int ((l[s + i] + c - q * d) % 2 ^ w))))) := b3.wr
      obtain ⟨dm3, lim3, h3⟩ := (b4.mach M hr0 hre).ob
      refine ⟨_, rfl, _, rfl, m, _, dm3, _, _, rfl, h3, T.clM, T.nM_width, mf_width, _, w, rfl, rfl, ?_⟩
      refine ⟨l.set (s + i) ((l[s + i] + c - q * d) % 2 ^ w), _, _, _, rfl, b4, by rw [upd_same, List.map_set], hg.set ⟨Int.emod_nonneg _ (Int.ne_of_gt hB), Int.emod_lt_of_pos _ hB⟩, by rw [List.length_set]; exact hll, fun j hj => ?_, ?_⟩
      · rw [List.getElem?_set_ne (by omega)]
        exact hout j (by omega)
      · have t1 := Ar.row_turn (x := l[s + i]) (y := -(q * d)) hk hv
        rw [show l[s + i] + c + -(q * d) = l[s + i] + c - q * d by omega] at t1
        have gr : room[s + i]? = some l[s + i] := by rw [← hout (s + i) (Nat.le_refl _), gl]
        rw [show s + (i + 1) = s + i + 1 by omega, t1, Ar.val_take_succ gr, Ar.val_take_succ hd, Ar.pw_add, Int.mul_add, Int.add_mul]
        have e3 : -1 * q * (d * ((2 : Int) ^ w) ^ i) * ((2 : Int) ^ w) ^ s = -(q * d) * (((2 : Int) ^ w) ^ s * ((2 : Int) ^ w) ^ i) := by
          rw [show -1 * q = -q by omega, Int.neg_mul, Int.neg_mul, Int.neg_mul]
          congr 1
          ac_rfl
        omega
    · rintro σ H2 ⟨l, c, d1, d2, rfl, b2, hp, hg, hll, hout, hv⟩
      rw [List.length_map] at hout hv
      rw [List.take_length] at hv
      refine ⟨_, rfl, ?_⟩
      exact k H2 c l b2 hp hg hll hout hv
  · simp at hl5
theorem ok_put_back (T : Tx K mg) : Fn P wd K mg base 1 "put_back" pPutBack (spPutBack K) := by
  refine T.d_put_back.ok scPutBack (fun vs H Q E h => h.1) (fun f cdv A outer s0 H vs Q E hr h => ?_)
  obtain ⟨hl5, m, cA, eA, r, bb, w, s, room, bl, q, hvs, M, hr0, hre, hb0, hrb, hgr, hgb, hsn, hq0, hq1, k⟩ := h
  rcases hvs with ⟨rfl, _⟩ | ⟨rfl, _, rfl⟩
  · simp at hl5
  · obtain ⟨dm, lim, h1⟩ := M.ob
    have hB := pwp w
    have h30 := pw30 M.w30
    refine ⟨_, (pss_cons (ps_set (i := 4) scPutBack.nd rfl (.inl rfl) pe_int)
        (pss_one (ps_for PassesOwn.never rfl (pi_enum (by rfl) T.z_enumerate (pa_cons (pv 3) pa_nil)) (pg_tup (by rfl) (pgs_cons (pg_name (i := 5) scPutBack.nd rfl (.inl rfl)) (pgs_cons (pg_name (i := 6) scPutBack.nd rfl (.inl rfl)) pgs_nil))) (pss_cons (ps_set (i := 4) scPutBack.nd rfl (.inl rfl) (pe_op op_add (pe_op op_add (pv 4) (pe_ix ix_list (pv 1) (pe_op op_add (pv 2) (pv 5)) (fun _ _ => rfl))) (pv 6)))
        (pss_cons (ps_asg (pe_op op_mod (pv 4) (pe_fld (pv 0) rfl)) (pg_sub (pv 1) (pe_op op_add (pv 2) (pv 5)) set_list))
        (pss_one (ps_set (i := 4) scPutBack.nd rfl (.inl rfl) (pe_op op_shrN (pv 4) (pe_fld (pv 0) rfl))))))))), ?_⟩
    refine ⟨_, rfl, bb, _, rfl, SqL.of hb0, for_it (walk_enum (a := bb) (xs := bl.map V.int)) (fun i σ H2 => ∃ (l : List Int) (c : Int) (d1 d2 : Option V), σ = [some (.ref m), some (.ref r), some (.int (s : Int)), some (.ref bb), some (.int c), d1, d2] ∧ But r H H2 ∧ H2 r = some (.lst (l.map V.int)) ∧ Ar.Dg ((2 : Int) ^ w) l ∧ l.length = room.length ∧ (∀ j, s + i ≤ j → l[j]? = room[j]?) ∧ Ar.val ((2 : Int) ^ w) (l.take (s + i)) + c * ((2 : Int) ^ w) ^ (s + i) = Ar.val ((2 : Int) ^ w) (room.take (s + i)) + 1 * 1 * Ar.val ((2 : Int) ^ w) (bl.take i) * ((2 : Int) ^ w) ^ s)
      ⟨room, 0, none, none, rfl, But.refl, hr0, hgr, rfl, fun _ _ => rfl, by simp [Ar.val]⟩ (fun i σ H2 _ ⟨_, _, _, _, _, b2, _⟩ => SqL.of (b2 _ _ hb0 hrb.symm)) ?_ ?_⟩
    · rintro i y σ H2 H3 hi ⟨l, c, d1, d2, rfl, b2, hp, hg, hll, hout, hv⟩ ⟨Tt, x1, x2, rfl, nT, rfl, e1, e2⟩
      have e1 : x1 = .int (i : Int) := (Option.some.inj e1).symm
      subst e1
      obtain ⟨d, hd, rfl⟩ := mapint_of e2
      have hib := (List.getElem?_eq_some_iff.mp hd).1
      have dd := hgb.at hd
      have b3 : But r H (upd H2 Tt (.tup [.int (i : Int), .int d])) := b2.new nT
      have hp3 : (upd H2 Tt (.tup [.int (i : Int), .int d])) r = some (.lst (l.map V.int)) := Same.new nT _ _ hp
      obtain ⟨dm2, lim2, h2⟩ := (b3.mach M hr0 hre).ob
      have hk : s + i < l.length := by omega
      have gl := List.getElem?_eq_getElem hk
      refine ⟨Tt, _, rfl, SqT.of upd_same, rfl, _, _, rfl, _, _, rfl, rfl, ?_⟩
      refine ⟨_, rfl, _, rfl, _, rfl, _, rfl, _, _, rfl, rfl, r, _, _, .int l[s + i], rfl, rfl, SqL.of hp3, at_of (j := s + i) (by omega) (mapint_get gl), _, _, rfl, rfl, _, rfl, _, _, rfl, rfl, ?_⟩
      refine ⟨_, rfl, _, rfl, m, _, dm2, _, _, rfl, h2, T.clM, T.nM_base, mf_base, _, _, rfl, rfl, hB, _, rfl, _, rfl, _, rfl, _, _, rfl, rfl, r, _, _, s + i, rfl, rfl, hp3, ixN_nat (by omega) (by rw [List.length_map]; exact hk), ?_⟩
      have b4 : But r H (upd (upd H2 Tt (.tup [.int (i : Int), .int d])) r (.lst ((l.map V.int).set (s + i) (.int ((c + l[s + i] + d) % 2 ^ w))))) := b3.wr
      obtain ⟨dm3, lim3, h3⟩ := (b4.mach M hr0 hre).ob
      refine ⟨_, rfl, _, rfl, m, _, dm3, _, _, rfl, h3, T.clM, T.nM_width, mf_width, _, w, rfl, rfl, ?_⟩
      refine ⟨l.set (s + i) ((c + l[s + i] + d) % 2 ^ w), _, _, _, rfl, b4, by rw [upd_same, List.map_set], hg.set ⟨Int.emod_nonneg _ (Int.ne_of_gt hB), Int.emod_lt_of_pos _ hB⟩, by rw [List.length_set]; exact hll, fun j hj => ?_, ?_⟩
      · rw [List.getElem?_set_ne (by omega)]
        exact hout j (by omega)
      · have t1 := Ar.row_turn (x := l[s + i]) (y := d) hk hv
        rw [show l[s + i] + c + d = c + l[s + i] + d by omega] at t1
        have gr : room[s + i]? = some l[s + i] := by rw [← hout (s + i) (Nat.le_refl _), gl]
        rw [show s + (i + 1) = s + i + 1 by omega, t1, Ar.val_take_succ gr, Ar.val_take_succ hd, Ar.pw_add, Int.mul_add, Int.add_mul]
        have e3 : 1 * 1 * (d * ((2 : Int) ^ w) ^ i) * ((2 : Int) ^ w) ^ s = d * (((2 : Int) ^ w) ^ s * ((2 : Int) ^ w) ^ i) := by
          rw [show (1 : Int) * 1 = 1 from rfl, Int.one_mul]
          ac_rfl
        omega
    · rintro σ H2 ⟨l, c, d1, d2, rfl, b2, hp, hg, hll, hout, hv⟩
      rw [List.length_map] at hout hv
      rw [List.take_length] at hv
      exact k H2 c l b2 hp hg hll hout hv
/-! ### a step -/
def stpV (st : Ar.Stp) : List V := [.int st.guess, .int st.corr, .bl st.rest, .int st.dig]
/-- all but the list at r and what the machine counts by is as it was -/
def But3 (r cA eA : Addr) (H H' : Hp) : Prop := ∀ b o, H b = some o → b ≠ r → b ≠ cA → b ≠ eA → H' b = some o
def spQuotientDigit (K : PySem.W.Frag) : Sp := fun vs H Q _ => ∃ (m cA eA r bb : Addr) (w s : Nat) (room bl : List Int), vs = [.ref m, .ref r, .int (s : Int), .ref bb] ∧ Mach K H m cA eA w ∧ H r = some (.lst (room.map V.int)) ∧ r ≠ eA ∧ H bb = some (.lst (bl.map V.int)) ∧ bb ≠ eA ∧ r ≠ bb ∧
  Ar.Dg ((2 : Int) ^ w) room ∧ Ar.Dg ((2 : Int) ^ w) bl ∧ s + bl.length < room.length ∧ Ar.Nrm ((2 : Int) ^ w) bl.length (Ar.val ((2 : Int) ^ w) bl) ∧ Ar.val ((2 : Int) ^ w) (room.take (s + bl.length + 1)) < Ar.val ((2 : Int) ^ w) bl * ((2 : Int) ^ w) ^ (s + 1) ∧
  ∀ H' Tt (room' : List Int), But3 r cA eA H H' → Mach K H' m cA eA w → H' r = some (.lst (room'.map V.int)) → Ar.Dg ((2 : Int) ^ w) room' → room'.length = room.length →
    Ar.val ((2 : Int) ^ w) (room'.take (s + bl.length)) = Ar.val ((2 : Int) ^ w) (room.take (s + bl.length + 1)) % (Ar.val ((2 : Int) ^ w) bl * ((2 : Int) ^ w) ^ s) →
    H Tt = none → H' Tt = some (.tup (stpV (Ar.stepAt ((2 : Int) ^ w) bl.length (Ar.val ((2 : Int) ^ w) bl) s (Ar.val ((2 : Int) ^ w) (room.take (s + bl.length + 1)))))) → Q (.ref Tt) H'
theorem But3.of {r cA eA : Addr} {H H' : Hp} (g : But r H H') : But3 r cA eA H H' := fun b o e h _ _ => g b o e h
theorem But3.go {r cA eA : Addr} {H H' : Hp} (g : Go cA eA H H') : But3 r cA eA H H' := fun b o e _ h1 h2 => g b o e h1 h2
theorem But3.trans {r cA eA : Addr} {H H1 H2 : Hp} (a : But3 r cA eA H H1) (b : But3 r cA eA H1 H2) : But3 r cA eA H H2 := fun c o e h1 h2 h3 => b c o (a c o e h1 h2 h3) h1 h2 h3
theorem But3.free {r cA eA m p : Addr} {w : Nat} {H H1 : Hp} {xs : List V} (b : But3 r cA eA H H1) (M1 : Mach K H1 m cA eA w) (hr : H1 r = some (.lst xs)) (hp : H1 p = none) : H p = none := by
  cases q : H p with
  | none => rfl
  | some o =>
    rw [b p o q (ne_of_none hr hp).symm (M1.nc hp) (M1.ne hp)] at hp
    cases hp
theorem ok_quotient_digit (T : Tx K mg) : Fn P wd K mg base 2 "quotient_digit" pQuotientDigit (spQuotientDigit K) := by
  have G_count : Mt P wd K mg base 1 (cM K) "count" pMCount (spMCount K) := ok_count T
  have G_guessed : Fn P wd K mg base 1 "guessed" pGuessed (spGuessed K) := ok_guessed T
  have G_take_product : Fn P wd K mg base 1 "take_product" pTakeProduct (spTakeProduct K) := ok_take_product T
  have G_put_back : Fn P wd K mg base 1 "put_back" pPutBack (spPutBack K) := ok_put_back T
  refine T.d_quotient_digit.ok scQuotientDigit (fun vs H Q E h => ?_) (fun f cdv A outer s0 H vs Q E hr h => ?_)
  · obtain ⟨m, cA, eA, r, bb, w, s, room, bl, rfl, _⟩ := h
    rfl
  · obtain ⟨m, cA, eA, r, bb, w, s, room, bl, rfl, M, hr0, hre, hb0, hbe, hrb, hgr, hgb, hsn, N, hR, k⟩ := h
    obtain ⟨dm, lim, h1⟩ := M.ob
    have hB := pwp w
    have hB2 := pw8 M.w8
    have n2 := N.n2
    -- the digits
    have i2 : s + bl.length < room.length := hsn
    have i1 : s + bl.length - 1 < room.length := by omega
    have i0 : s + bl.length - 2 < room.length := by omega
    have j1 : bl.length - 1 < bl.length := by omega
    have j0 : bl.length - 2 < bl.length := by omega
    have e2 := List.getElem?_eq_getElem i2
    have e1 := List.getElem?_eq_getElem i1
    have e0 := List.getElem?_eq_getElem i0
    have f1 := List.getElem?_eq_getElem j1
    have f0 := List.getElem?_eq_getElem j0
    generalize hr2 : room[s + bl.length] = r2 at e2
    generalize hr1 : room[s + bl.length - 1] = r1 at e1
    generalize hr00 : room[s + bl.length - 2] = r0 at e0
    generalize hv1 : bl[bl.length - 1] = v1 at f1
    generalize hv0 : bl[bl.length - 2] = v0 at f0
    have hgt := hgr.take (s + bl.length + 1)
    have tl : (room.take (s + bl.length + 1)).length = s + bl.length + 1 := by rw [List.length_take]; omega
    have t2 : (room.take (s + bl.length + 1))[s + bl.length]? = some r2 := by rw [List.getElem?_take_of_lt (by omega), e2]
    have t1 : (room.take (s + bl.length + 1))[s + bl.length - 1]? = some r1 := by rw [List.getElem?_take_of_lt (by omega), e1]
    have t0 : (room.take (s + bl.length + 1))[s + bl.length - 2]? = some r0 := by rw [List.getElem?_take_of_lt (by omega), e0]
    have u2 := Ar.top2 hB hgt (k := s + bl.length - 1) (by omega) t1 (by rw [show s + bl.length - 1 + 1 = s + bl.length by omega]; exact t2)
    have u3 := Ar.top3 hB hgt (k := s + bl.length - 2) (by omega) t0 (by rw [show s + bl.length - 2 + 1 = s + bl.length - 1 by omega]; exact t1) (by rw [show s + bl.length - 2 + 2 = s + bl.length by omega]; exact t2)
    have b1 := Ar.top1 hB hgb (k := bl.length - 1) (by omega) f1
    have b2 := Ar.top2 hB hgb (k := bl.length - 2) (by omega) f0 (by rw [show bl.length - 2 + 1 = bl.length - 1 by omega]; exact f1)
    have hR0 := Ar.val_nn hB hgt
    have go := Ar.guess_ok hB2 N hR0 hR
    simp only [u2, u3, b1, b2] at go
    obtain ⟨v1p, v1B, v2p, q0, qB, c1, c2, c3, c4⟩ := go
    have hbpos : 0 < Ar.val ((2 : Int) ^ w) bl := by
      have p1 := Ar.pw_pos hB (bl.length - 1)
      have := Ar.ediv_mul_le' (a := Ar.val ((2 : Int) ^ w) bl) p1
      rw [b1] at this
      have := Int.mul_pos v1p p1
      omega
    have hbn : Ar.val ((2 : Int) ^ w) bl < ((2 : Int) ^ w) ^ bl.length := Ar.val_lt hB hgb
    have est : Ar.stepAt ((2 : Int) ^ w) bl.length (Ar.val ((2 : Int) ^ w) bl) s (Ar.val ((2 : Int) ^ w) (room.take (s + bl.length + 1))) = ⟨(r2 * 2 ^ w + r1) / v1, (r2 * 2 ^ w + r1) / v1 - ((r2 * 2 ^ w + r1) * 2 ^ w + r0) / (v1 * 2 ^ w + v0), decide (Ar.val ((2 : Int) ^ w) (room.take (s + bl.length + 1)) / (Ar.val ((2 : Int) ^ w) bl * ((2 : Int) ^ w) ^ s) < ((r2 * 2 ^ w + r1) * 2 ^ w + r0) / (v1 * 2 ^ w + v0)), Ar.val ((2 : Int) ^ w) (room.take (s + bl.length + 1)) / (Ar.val ((2 : Int) ^ w) bl * ((2 : Int) ^ w) ^ s)⟩ := by
      unfold Ar.stepAt
      simp only [u2, u3, b1, b2]
    rw [est] at k
    have hRv : Ar.val ((2 : Int) ^ w) (room.take (s + bl.length + 1)) = Ar.val ((2 : Int) ^ w) (room.take (s + bl.length)) + r2 * ((2 : Int) ^ w) ^ (s + bl.length) := Ar.val_take_succ e2
    generalize hRR : Ar.val ((2 : Int) ^ w) (room.take (s + bl.length + 1)) = R at *
    have q1 : R / (Ar.val ((2 : Int) ^ w) bl * ((2 : Int) ^ w) ^ s) = R / (Ar.val ((2 : Int) ^ w) bl * ((2 : Int) ^ w) ^ s) := rfl
    generalize hqq : R / (Ar.val ((2 : Int) ^ w) bl * ((2 : Int) ^ w) ^ s) = q at *
    generalize hgg : (r2 * 2 ^ w + r1) / v1 = g at *
    generalize hhh : ((r2 * 2 ^ w + r1) * 2 ^ w + r0) / (v1 * 2 ^ w + v0) = hh at *
    refine ⟨_, (pss_cons (ps_asg (pe_fn G_guessed (hr.mono (by decide)) (pa_cons (pv 0) (pa_cons (pv 1) (pa_cons (pv 2) (pa_cons (pv 3) pa_nil))))) (pg_tup (by rfl) (pgs_cons (pg_name (i := 4) scQuotientDigit.nd rfl (.inl rfl)) (pgs_cons (pg_name (i := 5) scQuotientDigit.nd rfl (.inl rfl)) (pgs_cons (pg_name (i := 6) scQuotientDigit.nd rfl (.inl rfl)) pgs_nil)))))
        (pss_cons (ps_expr (pe_mt G_count (hr.mono (by decide)) (pv 0) (pa_cons pe_str (pa_cons pe_int pa_nil))))
        (pss_cons (ps_expr (pe_mt G_count (hr.mono (by decide)) (pv 0) (pa_cons pe_str (pa_cons (pv 5) pa_nil))))
        (pss_cons (ps_set (i := 7) scQuotientDigit.nd rfl (.inl rfl) (pe_cmpR op_lt (pe_op op_add (pe_ix ix_list (pv 1) (pe_op op_add (pv 2) (pe_callB call_len_seq (by rfl) T.z_len PySem.boot_len (pa_cons (pv 3) pa_nil))) (fun _ _ => rfl)) (pe_fn G_take_product (hr.mono (by decide)) (pa_cons (pv 0) (pa_cons (pv 1) (pa_cons (pv 2) (pa_cons (pv 3) (pa_cons (pv 6) pa_nil))))))) pe_int (nomark _)))
        (pss_cons (ps_expr (pe_mt G_count (hr.mono (by decide)) (pv 0) (pa_cons pe_str (pa_cons (pe_callB call_len_seq (by rfl) T.z_len PySem.boot_len (pa_cons (pv 3) pa_nil)) pa_nil))))
        (pss_cons (ps_if (pt_val (pv 7)) (pss_cons (ps_expr (pe_fn G_put_back (hr.mono (by decide)) (pa_cons (pv 0) (pa_cons (pv 1) (pa_cons (pv 2) (pa_cons (pv 3) pa_nil))))))
        (pss_cons (ps_expr (pe_mt G_count (hr.mono (by decide)) (pv 0) (pa_cons pe_str (pa_cons (pe_callB call_len_seq (by rfl) T.z_len PySem.boot_len (pa_cons (pv 3) pa_nil)) pa_nil))))
        (pss_one (ps_expr (pe_mt G_count (hr.mono (by decide)) (pv 0) (pa_cons pe_str (pa_cons pe_int pa_nil))))))) pss_nil)
        (pss_one (ps_ret (pe_tup (pa_cons (pv 4) (pa_cons (pv 5) (pa_cons (pv 7) (pa_cons (pe_op op_sub (pv 6) (pe_callTy call_int1 (by rfl) T.z_int (by decide +kernel) (pa_cons (pv 7) pa_nil))) pa_nil))))))))))))), ?_⟩
    refine ⟨_, rfl, _, rfl, _, rfl, _, rfl, m, cA, eA, r, bb, w, s, room, bl, r2, r1, r0, v1, v0, rfl, M, hr0, hb0, hgr, hgb, n2, e2, e1, e0, f1, f0, v1p, by rw [hgg]; exact c4, by rw [hgg, hhh]; exact c3, fun H1 T1 s1 hT1 => ?_⟩
    rw [hgg, hhh] at hT1
    refine ⟨T1, _, rfl, SqT.of hT1, rfl, _, _, rfl, _, _, rfl, _, _, rfl, rfl, ?_⟩
    have M1 := M.same s1
    obtain ⟨dm1, lim1, h11⟩ := M1.ob
    refine ⟨_, rfl, m, dm1, _, rfl, h11, mf_count, m, cA, eA, w, "quotient", _, rfl, M1, by decide +kernel, fun H2 g2 M2 => ?_⟩
    obtain ⟨dm2, lim2, h12⟩ := M2.ob
    refine ⟨_, rfl, m, dm2, _, rfl, h12, mf_count, _, rfl, m, cA, eA, w, "corrected", _, rfl, M2, by decide +kernel, fun H3 g3 M3 => ?_⟩
    have g13 := (Same.go s1).trans (g2.trans g3)
    have hr3 := g13.lst M hr0 hre
    have hb3 := g13.lst M hb0 hbe
    refine ⟨_, rfl, _, rfl, _, rfl, bb, _, rfl, .inl (SqL.of hb3), _, _, rfl, rfl, r, _, _, .int r2, rfl, rfl, SqL.of hr3, at_of (j := s + bl.length) (by rw [List.length_map]; omega) (mapint_get e2), ?_⟩
    refine ⟨_, rfl, _, rfl, _, rfl, _, rfl, _, rfl, rfl, m, cA, eA, r, bb, w, s, room, bl, hh, .inl ⟨rfl, rfl⟩, M3, hr3, hre, hb3, hrb, hgr, hgb, hsn, by omega, by omega, fun H4 c room' b4 hr4 hg4 hl4 hout4 hv4 => ?_⟩
    have M4 := b4.mach M3 hr3 hre
    have hb4 := b4 _ _ hb3 hrb.symm
    have but4 : But3 r cA eA H H4 := (But3.go g13).trans (But3.of b4)
    have V0 := Ar.val_nn hB (hg4.take (s + bl.length))
    have V1 := Ar.val_lt hB (hg4.take (s + bl.length))
    have tl4 : (room'.take (s + bl.length)).length = s + bl.length := by rw [List.length_take]; omega
    rw [tl4] at V1
    have so := Ar.step_ok (q := q) hB hbpos hbn hRv hR0 ⟨V0, V1⟩ (h := hh) (by rw [hv4, show -1 * hh = -hh by omega, Int.neg_mul, Int.neg_mul]; omega) hqq.symm c1 c2
    have hif : (if (-1 : Int) = 1 then V.non else V.int c) = V.int c := if_neg (by decide)
    rw [hif]
    refine ⟨_, _, rfl, rfl, _, _, rfl, rfl, ?_⟩
    obtain ⟨dm4, lim4, h14⟩ := M4.ob
    refine ⟨_, rfl, m, dm4, _, rfl, h14, mf_count, _, rfl, bb, _, rfl, .inl (SqL.of hb4), m, cA, eA, w, "product", _, rfl, M4, by decide +kernel, fun H5 g5 M5 => ?_⟩
    have hr5 := g5.lst M4 hr4 hre
    have hb5 := g5.lst M4 hb4 hbe
    have but5 := but4.trans (But3.go g5)
    refine ⟨_, rfl, _, rfl, ite2 (fun hless => ?_) (fun hless => ?_)⟩
    · have hless1 : r2 + c < 0 := of_decide_eq_true hless
      have hhq : hh = q + 1 := by
        rcases Int.lt_or_le q hh with z | z
        · omega
        · have := so.1 (by omega)
          omega
      obtain ⟨_, so2⟩ := so.2 hhq
      refine ⟨_, rfl, _, rfl, _, rfl, _, rfl, rfl, m, cA, eA, r, bb, w, s, room', bl, 1, .inr ⟨rfl, rfl, rfl⟩, M5, hr5, hre, hb5, hrb, hg4, hgb, by omega, by decide, by omega, fun H6 cc room2 b6 hr6 hg6 hl6 hout6 hv6 => ?_⟩
      have M6 := b6.mach M5 hr5 hre
      have hb6 := b6 _ _ hb5 hrb.symm
      have but6 := but5.trans (But3.of b6)
      have W0 := Ar.val_nn hB (hg6.take (s + bl.length))
      have W1 := Ar.val_lt hB (hg6.take (s + bl.length))
      have tl6 : (room2.take (s + bl.length)).length = s + bl.length := by rw [List.length_take]; omega
      rw [tl6] at W1
      have hfin := so2 _ cc ⟨W0, W1⟩ (by rw [hv6, show (1 : Int) * 1 = 1 from rfl, Int.one_mul])
      obtain ⟨dm6, lim6, h16⟩ := M6.ob
      refine ⟨_, rfl, m, dm6, _, rfl, h16, mf_count, _, rfl, bb, _, rfl, .inl (SqL.of hb6), m, cA, eA, w, "sum", _, rfl, M6, by decide +kernel, fun H7 g7 M7 => ?_⟩
      obtain ⟨dm7, lim7, h17⟩ := M7.ob
      refine ⟨_, rfl, m, dm7, _, rfl, h17, mf_count, m, cA, eA, w, "restored", _, rfl, M7, by decide +kernel, fun H8 g8 M8 => ?_⟩
      have g78 := g7.trans g8
      have hr8 := g78.lst M6 hr6 hre
      have but8 := but6.trans (But3.go g78)
      refine ⟨_, rfl, _, rfl, _, rfl, _, rfl, _, rfl, .inr ⟨_, rfl, _, _, rfl, rfl, by show 4 ≤ sizeLine; decide, fun Tt nT => ?_⟩⟩
      have sT : Same H8 (upd H8 Tt (.tup [.int g, .int (g - hh), .bl (decide (r2 + c < 0)), .int (hh - (if decide (r2 + c < 0) = true then 1 else 0))])) := Same.new nT
      refine k _ Tt room2 (but8.trans (But3.go (Same.go sT))) (M8.same sT) (sT _ _ hr8) hg6 (by omega) hfin (but8.free M8 hr8 nT) ?_
      rw [upd_same]
      show some (HO.tup [.int g, .int (g - hh), .bl (decide (r2 + c < 0)), .int (hh - (if decide (r2 + c < 0) = true then 1 else 0))]) = some (HO.tup [.int g, .int (g - hh), .bl (decide (q < hh)), .int q])
      rw [decide_eq_true hless1, decide_eq_true (show q < hh by omega), if_pos rfl, hhq, show q + 1 - 1 = q by omega]
    · have hless1 : ¬ r2 + c < 0 := fun z => hless (decide_eq_true z)
      have hhq : hh = q := by
        rcases Int.lt_or_le q hh with z | z
        · have := (so.2 (by omega)).1
          omega
        · omega
      obtain ⟨_, hfin⟩ := so.1 hhq
      refine ⟨_, rfl, _, rfl, _, rfl, _, rfl, _, rfl, .inr ⟨_, rfl, _, _, rfl, rfl, by show 4 ≤ sizeLine; decide, fun Tt nT => ?_⟩⟩
      have sT : Same H5 (upd H5 Tt (.tup [.int g, .int (g - hh), .bl (decide (r2 + c < 0)), .int (hh - (if decide (r2 + c < 0) = true then 1 else 0))])) := Same.new nT
      refine k _ Tt room' (but5.trans (But3.go (Same.go sT))) (M5.same sT) (sT _ _ hr5) hg4 hl4 hfin (but5.free M5 hr5 nT) ?_
      rw [upd_same]
      show some (HO.tup [.int g, .int (g - hh), .bl (decide (r2 + c < 0)), .int (hh - (if decide (r2 + c < 0) = true then 1 else 0))]) = some (HO.tup [.int g, .int (g - hh), .bl (decide (q < hh)), .int q])
      rw [decide_eq_false hless1, decide_eq_false (show ¬ q < hh by omega), if_neg Bool.false_ne_true, hhq, show q - 0 = q by omega]
end Tb
set_option linter.all false
/-! the steps of a long division of two numbers; what they do not depend on -/
namespace Ar
/-- st: the steps of the long division of x by y, n digits of base 2 ^ w in y -/
structure Long (w n : Nat) (x y : Int) (st : List Stp) : Prop where
  ex : ∃ d k : Nat, Nrm ((2 : Int) ^ w) n (y * 2 ^ d) ∧ x * 2 ^ d < y * 2 ^ d / ((2 : Int) ^ w) ^ (n - 1) * ((2 : Int) ^ w) ^ (n - 1) * ((2 : Int) ^ w) ^ k ∧
    (∀ j, k = j + 1 → y * 2 ^ d / ((2 : Int) ^ w) ^ (n - 1) * ((2 : Int) ^ w) ^ (n - 1) * ((2 : Int) ^ w) ^ j ≤ x * 2 ^ d) ∧ st = stepsOf ((2 : Int) ^ w) n (y * 2 ^ d) k (x * 2 ^ d)
theorem p2 (k : Nat) : (0 : Int) < 2 ^ k := Int.pow_pos (by decide)
theorem pow_le {a b : Nat} (h : a ≤ b) : (2 : Int) ^ a ≤ 2 ^ b := by
  rw [show b = a + (b - a) by omega, Int.pow_add]
  have h1 : (1 : Int) ≤ 2 ^ (b - a) := p2 _
  have := Int.mul_le_mul_of_nonneg_left h1 (Int.le_of_lt (p2 a))
  omega
/-- one power of two brings the top bit up -/
theorem nrm_uniq {w n : Nat} {y : Int} {d e : Nat} (h : Nrm ((2 : Int) ^ w) n (y * 2 ^ d)) (h' : Nrm ((2 : Int) ^ w) n (y * 2 ^ e)) : d = e := by
  have hB := p2 w
  have key : ∀ d e : Nat, Nrm ((2 : Int) ^ w) n (y * 2 ^ d) → Nrm ((2 : Int) ^ w) n (y * 2 ^ e) → ¬ d < e := fun d e h h' hlt => by
    have p1 := pw_pos hB (n - 1)
    have n2 := h.n2
    have en : ((2 : Int) ^ w) ^ n = ((2 : Int) ^ w) ^ (n - 1) * 2 ^ w := by
      have := pw_succ ((2 : Int) ^ w) (n - 1)
      rwa [show n - 1 + 1 = n by omega] at this
    have a1 : y * 2 ^ d / ((2 : Int) ^ w) ^ (n - 1) * ((2 : Int) ^ w) ^ (n - 1) ≤ y * 2 ^ d := ediv_mul_le' p1
    have a2 : (2 : Int) ^ w * ((2 : Int) ^ w) ^ (n - 1) ≤ 2 * (y * 2 ^ d / ((2 : Int) ^ w) ^ (n - 1)) * ((2 : Int) ^ w) ^ (n - 1) := Int.mul_le_mul_of_nonneg_right h.lo (Int.le_of_lt p1)
    have a3 : 2 * (y * 2 ^ d / ((2 : Int) ^ w) ^ (n - 1)) * ((2 : Int) ^ w) ^ (n - 1) = 2 * (y * 2 ^ d / ((2 : Int) ^ w) ^ (n - 1) * ((2 : Int) ^ w) ^ (n - 1)) := Int.mul_assoc ..
    have a4 : ((2 : Int) ^ w) ^ n ≤ 2 * (y * 2 ^ d) := by
      rw [en, Int.mul_comm]
      omega
    have yd0 : 0 < y * 2 ^ d := by
      have := pw_pos hB n
      omega
    have a5 : y * 2 ^ e = y * 2 ^ d * 2 ^ (e - d) := by
      rw [Int.mul_assoc, ← Int.pow_add, show d + (e - d) = e by omega]
    have a6 : (2 : Int) ^ 1 ≤ 2 ^ (e - d) := pow_le (by omega)
    have a7 := Int.mul_le_mul_of_nonneg_left a6 (Int.le_of_lt yd0)
    have a8 := h'.hi
    rw [a5] at a8
    have a9 : (2 : Int) ^ 1 = 2 := rfl
    rw [a9] at a7
    omega
  have h1 := key d e h h'
  have h2 := key e d h' h
  omega
/-- the number of digits is fixed, too -/
theorem k_uniq {B C R : Int} (hB : 1 < B) (hC : 0 < C) {k l : Nat} (h1 : R < C * B ^ k) (h2 : ∀ j, k = j + 1 → C * B ^ j ≤ R) (h3 : R < C * B ^ l) (h4 : ∀ j, l = j + 1 → C * B ^ j ≤ R) : k = l := by
  have mono : ∀ i j : Nat, i ≤ j → C * B ^ i ≤ C * B ^ j := fun i j hij => by
    rw [show j = i + (j - i) by omega, pw_add, ← Int.mul_assoc]
    have p : 1 ≤ B ^ (j - i) := pw_pos (by omega) _
    have q : 0 < C * B ^ i := Int.mul_pos hC (pw_pos (by omega) _)
    have := Int.mul_le_mul_of_nonneg_left p (Int.le_of_lt q)
    omega
  rcases Nat.lt_trichotomy k l with h | h | h
  · have := h4 (l - 1) (by omega)
    have := mono k (l - 1) (by omega)
    omega
  · exact h
  · have := h2 (k - 1) (by omega)
    have := mono l (k - 1) (by omega)
    omega
theorem nrm_pos {w n : Nat} {b : Int} (h : Nrm ((2 : Int) ^ w) n b) : 0 < b / ((2 : Int) ^ w) ^ (n - 1) := by
  have := h.lo
  have := p2 w
  omega
theorem Long.uniq {w n : Nat} {x y : Int} {st st' : List Stp} (hw : 0 < w) (h : Long w n x y st) (h' : Long w n x y st') : st = st' := by
  obtain ⟨d, k, N, a1, a2, rfl⟩ := h
  obtain ⟨e, l, N', b1, b2, rfl⟩ := h'
  obtain rfl := nrm_uniq N N'
  have hB : (1 : Int) < 2 ^ w := by
    have := pow_le (show 1 ≤ w from hw)
    have e1 : (2 : Int) ^ 1 = 2 := rfl
    omega
  obtain rfl := k_uniq hB (Int.mul_pos (nrm_pos N) (pw_pos (p2 w) _)) a1 a2 b1 b2
  rfl
/-- both times a power of two, by which y gets no more digits -/
theorem Long.two {w n : Nat} {x y : Int} {st : List Stp} {e : Nat} (h : Long w n (x * 2 ^ e) (y * 2 ^ e) st) : Long w n x y st := by
  obtain ⟨d, k, N, a1, a2, rfl⟩ := h
  have q : ∀ z : Int, z * 2 ^ e * 2 ^ d = z * 2 ^ (e + d) := fun z => by rw [Int.mul_assoc, ← Int.pow_add]
  rw [q x, q y] at *
  exact ⟨e + d, k, N, a1, a2, rfl⟩
/-- both times a power of the base -/
theorem Long.shift {w n t : Nat} {x y : Int} {st : List Stp} (h : Long w n x y st) : Long w (n + t) (x * ((2 : Int) ^ w) ^ t) (y * ((2 : Int) ^ w) ^ t) st := by
  have hB := p2 w
  obtain ⟨d, k, N, a1, a2, rfl⟩ := h
  have n2 := N.n2
  have q : ∀ z : Int, z * ((2 : Int) ^ w) ^ t * 2 ^ d = z * 2 ^ d * ((2 : Int) ^ w) ^ t := fun z => Int.mul_right_comm ..
  have pt := pw_pos hB t
  have e1 : y * 2 ^ d * ((2 : Int) ^ w) ^ t / ((2 : Int) ^ w) ^ (n + t - 1) = y * 2 ^ d / ((2 : Int) ^ w) ^ (n - 1) := by
    rw [show n + t - 1 = (n - 1) + t by omega]
    exact mul_div_pw hB _ _ t
  have e2 : ∀ j : Nat, y * 2 ^ d / ((2 : Int) ^ w) ^ (n - 1) * ((2 : Int) ^ w) ^ (n + t - 1) * ((2 : Int) ^ w) ^ j = y * 2 ^ d / ((2 : Int) ^ w) ^ (n - 1) * ((2 : Int) ^ w) ^ (n - 1) * ((2 : Int) ^ w) ^ j * ((2 : Int) ^ w) ^ t := fun j => by
    rw [show n + t - 1 = (n - 1) + t by omega, pw_add]
    ac_rfl
  refine ⟨d, k, ⟨by omega, ?_, ?_⟩, ?_, fun j hj => ?_, ?_⟩
  · rw [q, pw_add]
    exact Int.mul_lt_mul_of_pos_right N.hi pt
  · rw [q, e1]
    exact N.lo
  · rw [q, q, e1, e2]
    exact Int.mul_lt_mul_of_pos_right a1 pt
  · rw [q, q, e1, e2]
    exact Int.mul_le_mul_of_nonneg_right (a2 j hj) (Int.le_of_lt pt)
  · rw [q, q]
    exact (stepsOf_scale hB n2 _ t k _).symm
/-- x is below what y's top digit says: no steps -/
theorem Long.none {w n : Nat} {x y : Int} {st : List Stp} (hw : 0 < w) (h : Long w n x y st) (hx : x < y / ((2 : Int) ^ w) ^ (n - 1) * ((2 : Int) ^ w) ^ (n - 1)) : st = [] := by
  have hB := p2 w
  obtain ⟨d, k, N, a1, a2, rfl⟩ := h
  have p1 := pw_pos hB (n - 1)
  have hB1 : (1 : Int) < 2 ^ w := by
    have := pow_le (show 1 ≤ w from hw)
    have e1 : (2 : Int) ^ 1 = 2 := rfl
    omega
  have k0 : k = 0 := by
    refine k_uniq (R := x * 2 ^ d) hB1 (Int.mul_pos (nrm_pos N) p1) a1 a2 ?_ (fun j h => absurd h (by omega))
    rw [Int.pow_zero, Int.mul_one]
    have b1 : x * 2 ^ d < y / ((2 : Int) ^ w) ^ (n - 1) * ((2 : Int) ^ w) ^ (n - 1) * 2 ^ d := Int.mul_lt_mul_of_pos_right hx (p2 d)
    have b2 : y / ((2 : Int) ^ w) ^ (n - 1) * 2 ^ d ≤ y * 2 ^ d / ((2 : Int) ^ w) ^ (n - 1) := by
      rw [Int.le_ediv_iff_mul_le p1, Int.mul_right_comm]
      exact Int.mul_le_mul_of_nonneg_right (ediv_mul_le' p1) (Int.le_of_lt (p2 d))
    have b3 := Int.mul_le_mul_of_nonneg_right b2 (Int.le_of_lt p1)
    rw [Int.mul_right_comm] at b3
    omega
  subst k0
  rfl
/-- the quotient's digits -/
theorem Long.quot {w n : Nat} {x y : Int} {st : List Stp} (h : Long w n x y st) (hx : 0 ≤ x) (hy : 0 < y) : val ((2 : Int) ^ w) (st.reverse.map (·.dig)) = x / y ∧ Dg ((2 : Int) ^ w) (st.map (·.dig)) := by
  have hB := p2 w
  obtain ⟨d, k, N, a1, a2, rfl⟩ := h
  have hd := p2 d
  have a3 : x * 2 ^ d < y * 2 ^ d * ((2 : Int) ^ w) ^ k := by
    have p1 := pw_pos hB (n - 1)
    have b1 := ediv_mul_le' (a := y * 2 ^ d) p1
    have := Int.mul_le_mul_of_nonneg_right b1 (Int.le_of_lt (pw_pos hB k))
    omega
  have hv := stepsOf_val hB (n := n) (Int.mul_pos hy hd) k (x * 2 ^ d) (Int.mul_nonneg hx (Int.le_of_lt hd)) a3
  rw [Int.mul_ediv_mul_of_pos_left _ _ hd] at hv
  exact hv
/-- the top bit of a digit -/
theorem bits_ok {d : Int} (hd : 0 < d) {k : Nat} (hk : k = d.natAbs.log2 + 1) : (2 : Int) ^ (k - 1) ≤ d ∧ d < 2 ^ k := by
  subst hk
  have h0 : d.natAbs ≠ 0 := by omega
  have h1 := Nat.log2_self_le h0
  have h2 := Nat.lt_log2_self (n := d.natAbs)
  have c1 : ((2 ^ d.natAbs.log2 : Nat) : Int) = 2 ^ d.natAbs.log2 := by simp
  have c2 : ((2 ^ (d.natAbs.log2 + 1) : Nat) : Int) = 2 ^ (d.natAbs.log2 + 1) := by simp
  rw [Nat.add_sub_cancel]
  omega
/-- the divisor shifted up -/
theorem nrm_of {w n : Nat} {y v : Int} {k : Nat} (hn : 2 ≤ n) (hv : 0 < v) (htop : y / ((2 : Int) ^ w) ^ (n - 1) = v) (h1 : (2 : Int) ^ (k - 1) ≤ v) (h2 : v < 2 ^ k) (hk : 1 ≤ k) (hkw : k ≤ w) : Nrm ((2 : Int) ^ w) n (y * 2 ^ (w - k)) := by
  have hB := p2 w
  have p1 := pw_pos hB (n - 1)
  have pd := p2 (w - k)
  have en : ((2 : Int) ^ w) ^ n = ((2 : Int) ^ w) ^ (n - 1) * 2 ^ w := by
    have := pw_succ ((2 : Int) ^ w) (n - 1)
    rwa [show n - 1 + 1 = n by omega] at this
  have ew : (2 : Int) ^ w = 2 ^ k * 2 ^ (w - k) := by rw [← Int.pow_add]; congr 1; omega
  refine ⟨hn, ?_, ?_⟩
  · have a1 : y < (v + 1) * ((2 : Int) ^ w) ^ (n - 1) := by rw [← htop]; exact lt_ediv_mul p1
    have a2 : (v + 1) * ((2 : Int) ^ w) ^ (n - 1) ≤ 2 ^ k * ((2 : Int) ^ w) ^ (n - 1) := Int.mul_le_mul_of_nonneg_right (by omega) (Int.le_of_lt p1)
    have a3 : y * 2 ^ (w - k) < 2 ^ k * ((2 : Int) ^ w) ^ (n - 1) * 2 ^ (w - k) := Int.mul_lt_mul_of_pos_right (by omega) pd
    have a4 : 2 ^ k * ((2 : Int) ^ w) ^ (n - 1) * 2 ^ (w - k) = ((2 : Int) ^ w) ^ n := by
      rw [en]
      generalize ((2 : Int) ^ w) ^ (n - 1) = p
      rw [ew]
      ac_rfl
    omega
  · have b1 : v * 2 ^ (w - k) ≤ y * 2 ^ (w - k) / ((2 : Int) ^ w) ^ (n - 1) := by
      rw [Int.le_ediv_iff_mul_le p1, Int.mul_right_comm, ← htop]
      exact Int.mul_le_mul_of_nonneg_right (ediv_mul_le' p1) (Int.le_of_lt pd)
    have b2 : (2 : Int) ^ (k - 1) * 2 ^ (w - k) ≤ v * 2 ^ (w - k) := Int.mul_le_mul_of_nonneg_right h1 (Int.le_of_lt pd)
    have b3 : (2 : Int) ^ w = 2 * (2 ^ (k - 1) * 2 ^ (w - k)) := by
      rw [← Int.pow_add, show w = (k - 1 + (w - k)) + 1 by omega, Int.pow_succ, Int.mul_comm]
      congr 2
      omega
    omega
/-- how many digits the quotient gets: m digits in x, r what is left over from it, z its last digit behind the shift -/
theorem room_app {B v1 R r V : Int} {m n : Nat} (hB : 0 < B) (hn : 1 ≤ n) (hm : n ≤ m) (hV : 0 ≤ V ∧ V < B ^ m) (hR : R = V + B ^ m * r) (hr : 0 ≤ r ∧ r < v1) (hv : v1 < B) (hc : 0 < r ∨ v1 ≤ V / B ^ (m - 1)) :
    R < v1 * B ^ (n - 1) * B ^ (m + 1 - n) ∧ ∀ j, m + 1 - n = j + 1 → v1 * B ^ (n - 1) * B ^ j ≤ R := by
  have pm := pw_pos hB m
  have p1 := pw_pos hB (m - 1)
  have em : B ^ m = B ^ (m - 1) * B := by
    have := pw_succ B (m - 1)
    rwa [show m - 1 + 1 = m by omega] at this
  constructor
  · rw [Int.mul_assoc, ← pw_add, show n - 1 + (m + 1 - n) = m by omega]
    have a1 : (r + 1) * B ^ m ≤ v1 * B ^ m := Int.mul_le_mul_of_nonneg_right (by omega) (Int.le_of_lt pm)
    rw [Int.add_mul, Int.one_mul, Int.mul_comm r] at a1
    omega
  · intro j hj
    rw [Int.mul_assoc, ← pw_add, show n - 1 + j = m - 1 by omega]
    rcases hc with h | h
    · have a1 : v1 * B ^ (m - 1) ≤ B * B ^ (m - 1) := Int.mul_le_mul_of_nonneg_right (Int.le_of_lt hv) (Int.le_of_lt p1)
      have a2 : B ^ m * 1 ≤ B ^ m * r := Int.mul_le_mul_of_nonneg_left h (Int.le_of_lt pm)
      rw [Int.mul_comm B] at a1
      omega
    · have a1 := (Int.le_ediv_iff_mul_le p1).mp h
      have a2 : 0 ≤ B ^ m * r := Int.mul_nonneg (Int.le_of_lt pm) hr.1
      omega
theorem room_not {B v1 R x : Int} {m n : Nat} (hB : 0 < B) (hn : 1 ≤ n) (hm : n ≤ m) (hx : B ^ (m - 1) ≤ x) (hxR : x ≤ R) (hv : v1 < B) (hv0 : 0 ≤ v1) (hc : R / B ^ (m - 1) < v1) :
    R < v1 * B ^ (n - 1) * B ^ (m - n) ∧ ∀ j, m - n = j + 1 → v1 * B ^ (n - 1) * B ^ j ≤ R := by
  have p1 := pw_pos hB (m - 1)
  constructor
  · rw [Int.mul_assoc, ← pw_add, show n - 1 + (m - n) = m - 1 by omega]
    exact (Int.ediv_lt_iff_lt_mul p1).mp hc
  · intro j hj
    rw [Int.mul_assoc, ← pw_add, show n - 1 + j = m - 2 by omega]
    have em : B ^ (m - 1) = B ^ (m - 2) * B := by
      have := pw_succ B (m - 2)
      rwa [show m - 2 + 1 = m - 1 by omega] at this
    have a1 : v1 * B ^ (m - 2) ≤ B * B ^ (m - 2) := Int.mul_le_mul_of_nonneg_right (Int.le_of_lt hv) (Int.le_of_lt (pw_pos hB _))
    rw [Int.mul_comm B] at a1
    omega
/-- a rest times a power, split -/
theorem low_zero {a b c r : Int} (hc : 0 < c) (hr : 0 ≤ r ∧ r < c) (h : a * c + r = b * c) : a = b := by
  have h1 : (a * c + r) / c = a := by
    rw [Int.add_comm, Int.add_mul_ediv_right _ _ (Int.ne_of_gt hc), Int.ediv_eq_zero_of_lt hr.1 hr.2, Int.zero_add]
  rw [h, Int.mul_ediv_cancel _ (Int.ne_of_gt hc)] at h1
  exact h1.symm
end Ar
set_option Elab.async false
set_option linter.all false
set_option maxRecDepth 100000
set_option maxHeartbeats 4000000
/-! long division -/
namespace Tb
open PySem PySem.Spec PyProof.Rows L2
variable {P : Program} {wd : World} {K : PySem.W.Frag} {mg : Str → Option Value} {base : Heap}
/-- the steps lie as tuples -/
def StpsAt (H : Hp) (ts : List Addr) (st : List Ar.Stp) : Prop := Paired (fun t s => H t = some (.tup (stpV s))) ts st
theorem StpsAt.mono {H H' : Hp} {ts : List Addr} {st : List Ar.Stp} (h : StpsAt H ts st) (k : ∀ t xs, H t = some (.tup xs) → H' t = some (.tup xs)) : StpsAt H' ts st := by
  unfold StpsAt at *
  induction h with
  | nil => exact .nil
  | cons a _ ih => exact .cons (k _ _ a) ih
theorem StpsAt.snoc {H : Hp} {ts : List Addr} {st : List Ar.Stp} {t : Addr} {s : Ar.Stp} (h : StpsAt H ts st) (e : H t = some (.tup (stpV s))) : StpsAt H (ts ++ [t]) (st ++ [s]) := by
  unfold StpsAt at *
  induction h with
  | nil => exact .cons e .nil
  | cons a _ ih => exact .cons a ih
theorem StpsAt.len {H : Hp} {ts : List Addr} {st : List Ar.Stp} (h : StpsAt H ts st) : ts.length = st.length := Paired.length h
theorem But3.tup {r cA eA m p : Addr} {w : Nat} {H H1 : Hp} {xs ys : List V} (b : But3 r cA eA H H1) (M : Mach K H m cA eA w) (hr : H r = some (.lst xs)) (h : H p = some (.tup ys)) : H1 p = some (.tup ys) := by
  obtain ⟨kvs, h2, _⟩ := M.cs
  obtain ⟨es, h3, _⟩ := M.en
  exact b _ _ h (ne_of h hr (by intro z; cases z)) (ne_of h h2 (by intro z; cases z)) (ne_of h h3 (by intro z; cases z))
theorem But3.lst {r cA eA m p : Addr} {w : Nat} {H H1 : Hp} {ys : List V} (b : But3 r cA eA H H1) (M : Mach K H m cA eA w) (hpr : p ≠ r) (hpe : p ≠ eA) (h : H p = some (.lst ys)) : H1 p = some (.lst ys) := by
  obtain ⟨kvs, h2, _⟩ := M.cs
  exact b _ _ h hpr (ne_of h h2 (by intro z; cases z)) hpe
def spLongSteps (K : PySem.W.Frag) : Sp := fun vs H Q _ => ∃ (m cA eA ta tb : Addr) (w : Nat) (la lb : List Int) (x y : Int), vs = [.ref m, .ref ta, .ref tb] ∧ Mach K H m cA eA w ∧ H ta = some (.tup (la.map V.int)) ∧ H tb = some (.tup (lb.map V.int)) ∧ Ar.Row ((2 : Int) ^ w) la x ∧ Ar.Row ((2 : Int) ^ w) lb y ∧ 2 ≤ lb.length ∧ lb.length ≤ la.length ∧ la.length ≤ 900 ∧
  ∀ H' Tt ps pr (ts : List Addr) (st : List Ar.Stp) (lr : List Int), Go cA eA H H' → Mach K H' m cA eA w → H' Tt = some (.tup [.ref ps, .ref pr]) → H' ps = some (.lst (ts.map V.ref)) → ps ≠ eA → StpsAt H' ts st → st.length ≤ 1000 → Ar.Long w lb.length x y st →
    H' pr = some (.lst (lr.map V.int)) → Ar.Dg ((2 : Int) ^ w) lr → lr.length ≤ 1000 → Ar.val ((2 : Int) ^ w) lr = x % y → Q (.ref Tt) H'
theorem ok_long_steps (T : Tx K mg) : Fn P wd K mg base 3 "long_steps" pLongSteps (spLongSteps K) := by
  have G_enter : Mt P wd K mg base 1 (cM K) "enter" pMEnter (spMEnter K) := ok_enter T
  have G_lifted : Fn P wd K mg base 2 "lifted" pLifted (spLifted K) := ok_lifted T
  have G_lowered : Fn P wd K mg base 2 "lowered" pLowered (spLowered K) := ok_lowered T
  have G_quotient_digit : Fn P wd K mg base 2 "quotient_digit" pQuotientDigit (spQuotientDigit K) := ok_quotient_digit T
  refine T.d_long_steps.ok scLongSteps (fun vs H Q E h => ?_) (fun f cdv A outer s0 H vs Q E hr h => ?_)
  · obtain ⟨m, cA, eA, ta, tb, w, la, lb, x, y, rfl, _⟩ := h
    rfl
  · obtain ⟨m, cA, eA, ta, tb, w, la, lb, x, y, rfl, M, hta, htb, Ra, Rb, hn2, hmn, hlm, q⟩ := h
    obtain ⟨dm, lim, h1⟩ := M.ob
    have hB := pwp w
    have hB2 := pw8 M.w8
    have w8 := M.w8
    have w30 := M.w30
    -- the divisor's top digit
    have j1 : lb.length - 1 < lb.length := by omega
    have f1 := List.getElem?_eq_getElem j1
    generalize hv : lb[lb.length - 1] = v at f1
    obtain ⟨vt, v0, vB⟩ := Rb.top hB f1
    have hx0 := Ra.nn hB
    have hxge := Ra.ge hB (fun z => by rw [z] at hmn; simp only [List.length_nil] at hmn; omega)
    have hy0 : 0 < y := by
      have := Rb.ge hB (fun z => by subst z; simp at hn2)
      have := Ar.pw_pos hB (lb.length - 1)
      omega
    have ek : Builtin.Int.intBits v = v.natAbs.log2 + 1 := by
      unfold Builtin.Int.intBits
      rw [if_neg (by simp; omega)]
    have kw : Builtin.Int.intBits v ≤ w := PyProof.Rows.intBits_le (abs_lt' (by omega))
    generalize hkb : Builtin.Int.intBits v = kb at *
    obtain ⟨c1, c2⟩ := Ar.bits_ok v0 ek
    have N := Ar.nrm_of hn2 v0 vt c1 c2 (by omega) kw
    generalize hc : w - kb = c at N
    have hcw : c < w := by omega
    refine ⟨_, (pss_cons (ps_expr (pe_mt G_enter (hr.mono (by decide)) (pv 0) (pa_cons pe_str (pa_cons (pe_callB call_len_seq (by rfl) T.z_len PySem.boot_len (pa_cons (pv 1) pa_nil)) (pa_cons (pe_callB call_len_seq (by rfl) T.z_len PySem.boot_len (pa_cons (pv 2) pa_nil)) pa_nil)))))
        (pss_cons (ps_set (i := 3) scLongSteps.nd rfl (.inl rfl) (pe_op op_sub (pe_fld (pv 0) rfl) (pe_bits (pe_ix ix_tup (pv 2) (pe_un un_neg pe_int) (fun _ _ => rfl)))))
        (pss_cons (ps_set (i := 2) scLongSteps.nd rfl (.inr rfl) (pe_ix ix_tup (pe_fn G_lifted (hr.mono (by decide)) (pa_cons (pv 0) (pa_cons (pv 2) (pa_cons (pv 3) pa_nil)))) pe_int (fun _ _ => rfl)))
        (pss_cons (ps_asg (pe_fn G_lifted (hr.mono (by decide)) (pa_cons (pv 0) (pa_cons (pv 1) (pa_cons (pv 3) pa_nil)))) (pg_tup (by rfl) (pgs_cons (pg_name (i := 4) scLongSteps.nd rfl (.inr rfl)) (pgs_cons (pg_name (i := 5) scLongSteps.nd rfl (.inl rfl)) pgs_nil))))
        (C8.pss_cut (ps_if (PW.pt (pw_or (pt_cmpR op_gt (pv 5) pe_int (nomark _)) (pw_or1 (pt_cmpR op_ge (pe_ix ix_list (pv 4) (pe_un un_neg pe_int) (fun _ _ => rfl)) (pe_ix ix_list (pv 2) (pe_un un_neg pe_int) (fun _ _ => rfl)) (nomark _))))) (pss_one (ps_expr (pe_bm PySem.F.plainAttrs_list PySem.F.slot_list_append PySem.F.type_list_append mt_append (pv 4) (pa_cons (pv 5) pa_nil)))) pss_nil)
        (pss_cons (ps_setLc (i := 6) (own := [("start", 7)]) (g := gName 7) (tt := tYes) rfl scLongSteps.nd rfl rfl (sw_true rfl rfl rfl (by decide +kernel)) (pi_range3 (by rfl) T.z_range (pa_cons (pe_op op_sub (pe_op op_sub (pe_callB call_len_seq (by rfl) T.z_len PySem.boot_len (pa_cons (pv 4) pa_nil)) (pe_callB call_len_seq (by rfl) T.z_len PySem.boot_len (pa_cons (pv 2) pa_nil))) pe_int) (pa_cons (pe_un un_neg pe_int) (pa_cons (pe_un un_neg pe_int) pa_nil)))) (blkOk_by (own := [("start", 7)]) (N := nLongSteps) (sc := defScope sLongSteps) (by decide +kernel)) (fun _ _ _ _ _ => pg_name (i := 7) scLongSteps.nd rfl (Or.inl rfl)) (fun _ _ _ _ _ => pts_nil) (fun _ _ _ _ _ => (pe_fn G_quotient_digit (hr.mono (by decide)) (pa_cons (pv 0) (pa_cons (pv 4) (pa_cons (pv 7) (pa_cons (pv 2) pa_nil)))))))
        (pss_one (ps_ret (pe_tup (pa_cons (pv 6) (pa_cons (pe_ix ix_tup (pe_fn G_lowered (hr.mono (by decide)) (pa_cons (pv 0) (pa_cons (pe_slice sl_list (pv 4) po_none (po_some (pe_callB call_len_seq (by rfl) T.z_len PySem.boot_len (pa_cons (pv 2) pa_nil)))) (pa_cons (pv 3) pa_nil)))) pe_int (fun _ _ => rfl)) pa_nil))))))))))), ?_⟩
    refine ⟨_, rfl, m, dm, _, rfl, h1, mf_enter, _, rfl, ta, _, rfl, .inr (SqT.of hta), _, rfl, tb, _, rfl, .inr (SqT.of htb), m, cA, eA, w, _, _, _, rfl, M, fun H1 g1 M1 => ?_⟩
    have hta1 := g1.tup M hta
    have htb1 := g1.tup M htb
    obtain ⟨dm1, lim1, h11⟩ := M1.ob
    refine ⟨_, rfl, m, _, dm1, _, _, rfl, h11, T.clM, T.nM_width, mf_width, _, rfl, 1, rfl, tb, _, _, .int v, rfl, rfl, SqT.of htb1, at_end (k := 1) (by decide) (by rw [List.length_map]; omega) (by rw [List.length_map]; exact mapint_get f1), v, rfl, _, _, rfl, rfl, ?_⟩
    dsimp only
    rw [hkb, show (w : Int) - (kb : Int) = (c : Int) by omega]
    -- b = lifted(..)[0]
    refine ⟨_, rfl, _, rfl, _, rfl, m, cA, eA, tb, w, c, lb, rfl, M1, hcw, htb1, Rb.dg, by omega, fun H2 T2 pb bl rb g2 M2 npb hpb hgb hbl hrb hvb hT2 => ?_⟩
    rw [Rb.vl] at hvb
    have hvbl : Ar.val ((2 : Int) ^ w) bl = y * 2 ^ c := by
      have p1 := Ar.pw_pos hB bl.length
      have n0 := Ar.val_nn hB hgb
      have := N.hi
      rw [← hbl] at this
      have rz : rb = 0 := by
        rcases Int.lt_or_le 0 rb with z | z
        · have : ((2 : Int) ^ w) ^ bl.length * 1 ≤ ((2 : Int) ^ w) ^ bl.length * rb := Int.mul_le_mul_of_nonneg_left z (Int.le_of_lt p1)
          omega
        · omega
      rw [rz, Int.mul_zero, Int.add_zero] at hvb
      exact hvb
    refine ⟨T2, _, 0, .ref pb, rfl, rfl, SqT.of hT2, atI_nat (j := 0) rfl, ?_⟩
    have hta2 := g2.tup M1 hta1
    have pbe : pb ≠ eA := M1.ne npb
    -- room, carry = lifted(..)
    refine ⟨_, rfl, _, rfl, _, rfl, m, cA, eA, ta, w, c, la, rfl, M2, hcw, hta2, Ra.dg, by omega, fun H3 T3 pr room r g3 M3 npr hpr hgr hrl hrr hvr hT3 => ?_⟩
    rw [Ra.vl] at hvr
    have hpb3 := g3.lst M2 hpb pbe
    have prE : pr ≠ eA := M2.ne npr
    have prb : pr ≠ pb := (ne_of_none hpb npr).symm
    refine ⟨T3, _, rfl, SqT.of hT3, rfl, _, _, rfl, _, _, rfl, rfl, ?_⟩
    have g13 := (g1.trans g2).trans g3
    -- the top digit of b
    have jb : bl.length - 1 < bl.length := by omega
    have fb := List.getElem?_eq_getElem jb
    generalize hv1 : bl[bl.length - 1] = v1 at fb
    have tb1 := Ar.top1 hB hgb (k := bl.length - 1) (by omega) fb
    have v1B := (hgb.at fb).2
    rw [hvbl, hbl] at tb1
    have v1lo : (2 : Int) ^ w ≤ 2 * v1 := by
      have := N.lo
      rwa [tb1] at this
    have hcv : (2 : Int) ^ c ≤ v1 := by
      have a1 : (2 : Int) ^ (c + 1) ≤ 2 ^ w := pw_mono (by omega)
      rw [Int.pow_succ] at a1
      omega
    have jr : room.length - 1 < room.length := by omega
    have fr := List.getElem?_eq_getElem jr
    generalize hz1 : room[room.length - 1] = z1 at fr
    have tr1 := Ar.top1 hB hgr (k := room.length - 1) (by omega) fr
    have V0 := Ar.val_nn hB hgr
    have V1 := Ar.val_lt hB hgr
    -- what the next part needs
    refine ⟨fun σ H' => ∃ (room' : List Int) (k : Nat), σ = [some (.ref m), some (.ref ta), some (.ref pb), some (.int (c : Int)), some (.ref pr), some (.int r), none, none] ∧ But3 pr cA eA H3 H' ∧ Mach K H' m cA eA w ∧ H' pr = some (.lst (room'.map V.int)) ∧ Ar.Dg ((2 : Int) ^ w) room' ∧ room'.length = bl.length + k ∧ room'.length ≤ 901 ∧ Ar.val ((2 : Int) ^ w) room' = x * 2 ^ c ∧
      x * 2 ^ c < v1 * ((2 : Int) ^ w) ^ (lb.length - 1) * ((2 : Int) ^ w) ^ k ∧ ∀ j, k = j + 1 → v1 * ((2 : Int) ^ w) ^ (lb.length - 1) * ((2 : Int) ^ w) ^ j ≤ x * 2 ^ c, ?_, ?_⟩
    · refine ⟨_, rfl, _, _, rfl, rfl, _, rfl, ite2 (fun hcz => ?_) (fun hcz => ⟨_, rfl, 1, rfl, pr, _, _, .int z1, rfl, rfl, SqL.of hpr, at_end (k := 1) (by decide) (by rw [List.length_map]; omega) (by rw [List.length_map]; exact mapint_get fr), _, rfl, 1, rfl, pb, _, _, .int v1, rfl, rfl, SqL.of hpb3, at_end (k := 1) (by decide) (by rw [List.length_map]; omega) (by rw [List.length_map]; exact mapint_get fb), _, _, rfl, rfl, _, rfl, ite2 (fun hcd => ?_) (fun hcd => ?_)⟩)⟩
      case refine_3 =>
        have hcz : ¬ 0 < r := fun z => hcz (decide_eq_true z)
        have hcd : ¬ v1 ≤ z1 := fun z => hcd (decide_eq_true z)
        have r0 : r = 0 := by omega
        rw [r0, Int.mul_zero, Int.add_zero] at hvr
        have rn := Ar.room_not (R := x * 2 ^ c) (x := x) (m := la.length) (n := lb.length) hB (by omega) hmn hxge (by have := Int.mul_le_mul_of_nonneg_left (show 1 ≤ (2 : Int) ^ c from pwp c) hx0; omega) v1B (by omega) (by rw [← hvr, ← hrl, tr1]; omega)
        exact ⟨room, la.length - lb.length, rfl, fun b o e _ _ _ => e, M3, hpr, hgr, by omega, by omega, hvr, rn.1, rn.2⟩
      all_goals
        have hcond : 0 < r ∨ v1 ≤ Ar.val ((2 : Int) ^ w) room / ((2 : Int) ^ w) ^ (la.length - 1) := by
          first
            | exact .inl (of_decide_eq_true hcz)
            | exact .inr (by rw [← hrl, tr1]; exact of_decide_eq_true hcd)
        rw [hrl] at V1 hvr
        have ra := Ar.room_app (R := x * 2 ^ c) (m := la.length) (n := lb.length) hB (by omega) hmn ⟨V0, V1⟩ hvr.symm ⟨hrr.1, by omega⟩ v1B hcond
        refine ⟨_, rfl, .inl ⟨rfl, _, SqL.of hpr⟩, _, rfl, pr, _, _, rfl, rfl, hpr, by rw [List.length_map]; exact szlt (by omega), ?_⟩
        refine ⟨room ++ [r], la.length + 1 - lb.length, rfl, fun b o e hb _ _ => by rw [upd_ne hb]; exact e, M3.upd (by obtain ⟨dm3, lim3, h13⟩ := M3.ob; exact ne_of hpr h13 (by intro z; cases z)) (by obtain ⟨kvs, h23, _⟩ := M3.cs; exact ne_of hpr h23 (by intro z; cases z)) prE, by rw [upd_same, List.map_append]; rfl, hgr.snoc ⟨hrr.1, by omega⟩, by rw [List.length_append]; show room.length + 1 = _; omega, by rw [List.length_append]; show room.length + 1 ≤ _; omega, ?_, ra.1, ra.2⟩
        rw [Ar.val_snoc, hrl, Int.mul_comm r]
        exact hvr
    · rintro σ H4 ⟨room4, k, rfl, b4, M4, hpr4, hg4, hl4, hl41, hv4, kc1, kc2⟩
      have hpb4 := b4.lst M3 prb.symm pbe hpb3
      have hbpos : 0 < y * 2 ^ c := Int.mul_pos hy0 (pwp c)
      have Nb : Ar.Nrm ((2 : Int) ^ w) bl.length (Ar.val ((2 : Int) ^ w) bl) := by
        rw [hvbl, hbl]
        exact N
      have hR0 : 0 ≤ x * 2 ^ c := Int.mul_nonneg hx0 (Int.le_of_lt (pwp c))
      have hRk : x * 2 ^ c < y * 2 ^ c * ((2 : Int) ^ w) ^ k := by
        have p1 := Ar.pw_pos hB (lb.length - 1)
        have b1 := Ar.ediv_mul_le' (a := y * 2 ^ c) p1
        rw [tb1] at b1
        have := Int.mul_le_mul_of_nonneg_right b1 (Int.le_of_lt (Ar.pw_pos hB k))
        omega
      -- the comprehension
      refine ⟨_, rfl, pr, _, rfl, .inl (SqL.of hpr4), _, rfl, pb, _, rfl, .inl (SqL.of hpb4), _, _, rfl, rfl, _, _, rfl, rfl, _, rfl, _, rfl, _, _, _, _, rfl, RgC.neg (by rw [List.length_map, List.length_map]; omega) (by rw [List.length_map, List.length_map]; omega) (by decide) (by decide), fun D nD => ?_⟩
      have en : ((((room4.map V.int).length : Nat) : Int) - (((bl.map V.int).length : Nat) : Int) - 1 - -1).toNat = k := by
        rw [List.length_map, List.length_map]
        omega
      have Dpr : D ≠ pr := (ne_of_none hpr4 nD).symm
      have Dpb : D ≠ pb := (ne_of_none hpb4 nD).symm
      have De : D ≠ eA := M4.ne nD
      have Dc : D ≠ cA := M4.nc nD
      refine lc_it walk_rangeC (fun i H' => ∃ (room' : List Int) (ts : List Addr) (pre : List Ar.Stp) (R' : Int), But3 pr cA eA H4 H' ∧ Mach K H' m cA eA w ∧ H' pr = some (.lst (room'.map V.int)) ∧ Ar.Dg ((2 : Int) ^ w) room' ∧ room'.length = room4.length ∧ H' D = some (.lst (ts.map V.ref)) ∧ StpsAt H' ts pre ∧ ts.length = i ∧
          Ar.val ((2 : Int) ^ w) (room'.take (bl.length + (k - i))) = R' ∧ 0 ≤ R' ∧ R' < y * 2 ^ c * ((2 : Int) ^ w) ^ (k - i) ∧ Ar.stepsOf ((2 : Int) ^ w) lb.length (y * 2 ^ c) k (x * 2 ^ c) = pre ++ Ar.stepsOf ((2 : Int) ^ w) lb.length (y * 2 ^ c) (k - i) R' ∧ Ar.lastOf ((2 : Int) ^ w) (y * 2 ^ c) k (x * 2 ^ c) = Ar.lastOf ((2 : Int) ^ w) (y * 2 ^ c) (k - i) R')
        ⟨room4, [], [], x * 2 ^ c, fun b o e _ _ _ => Same.new nD _ _ e, M4.same (Same.new nD), Same.new nD _ _ hpr4, hg4, rfl, upd_same, .nil, rfl, by rw [Nat.sub_zero, ← hl4, List.take_length]; exact hv4, hR0, by rw [Nat.sub_zero]; exact hRk, by rw [Nat.sub_zero]; rfl, by rw [Nat.sub_zero]⟩ (fun _ _ _ _ => trivial) ?_ ?_
      · rintro i v H5 H6 hi ⟨room5, ts, pre, R5, b5, M5, hpr5, hg5, hl5, hD5, hst5, hti, hv5, R50, R51, hs5, hla5⟩ ⟨rfl, rfl⟩
        rw [en] at hi
        have ej : (((room4.map V.int).length : Int) - ((bl.map V.int).length : Int) - 1 + (i : Nat) * (-1)) = ((k - i - 1 : Nat) : Int) := by
          rw [List.length_map, List.length_map]
          omega
        have hpb5 := b5.lst M4 prb.symm pbe hpb4
        have ekn : bl.length + (k - i) = (k - i - 1) + bl.length + 1 := by omega
        rw [ekn] at hv5
        refine ⟨rfl, _, rfl, _, rfl, _, rfl, _, rfl, m, cA, eA, pr, pb, w, k - i - 1, room5, bl, by show [V.ref m, V.ref pr, V.int (((room4.map V.int).length : Int) - ((bl.map V.int).length : Int) - 1 + (i : Nat) * (-1)), V.ref pb] = _; rw [ej], M5, hpr5, prE, hpb5, pbe, prb, hg5, hgb, by omega, Nb, by rw [hv5, hvbl, show k - i - 1 + 1 = k - i by omega]; exact R51, fun H7 Tt room6 b7 M7 hpr7 hg7 hl7 hv7 nT hT => ?_⟩
        rw [hv5, hvbl, hbl] at hT
        rw [hv5, hvbl] at hv7
        have hD7 := b7.lst M5 Dpr De hD5
        have TD : Tt ≠ D := (ne_of_none hD5 nT).symm
        have ekk : k - i = (k - i - 1) + 1 := by omega
        have hbj : 0 < y * 2 ^ c * ((2 : Int) ^ w) ^ (k - i - 1) := Int.mul_pos hbpos (Ar.pw_pos hB _)
        have sD : ∀ b o, H7 b = some o → b ≠ D → (upd H7 D (.lst (ts.map V.ref ++ [.ref Tt]))) b = some o := fun b o e hb => by
          rw [upd_ne hb]
          exact e
        have tupD : ∀ t xs, H7 t = some (.tup xs) → (upd H7 D (.lst (ts.map V.ref ++ [.ref Tt]))) t = some (.tup xs) := fun t xs e => sD _ _ e (ne_of e hD7 (by intro z; cases z))
        refine ⟨ts.map V.ref, hD7, by rw [List.length_map]; exact szlt (by omega), room6, ts ++ [Tt], pre ++ [Ar.stepAt ((2 : Int) ^ w) lb.length (y * 2 ^ c) (k - i - 1) R5], R5 % (y * 2 ^ c * ((2 : Int) ^ w) ^ (k - i - 1)), fun b o e h1 h2 h3 => ?_, M7.upd (by obtain ⟨dm7, lim7, h17⟩ := M7.ob; exact ne_of hD7 h17 (by intro z; cases z)) Dc De, sD _ _ hpr7 Dpr.symm, hg7, by omega, by rw [upd_same, List.map_append]; rfl, ?_, by rw [List.length_append, hti]; rfl, ?_, Int.emod_nonneg _ (Int.ne_of_gt hbj), ?_, ?_, ?_⟩
        · exact sD _ _ (b7 _ _ (b5 _ _ e h1 h2 h3) h1 h2 h3) (ne_of_none e nD)
        · exact ((hst5.mono (fun t xs e => b7.tup M5 hpr5 e)).mono tupD).snoc (tupD _ _ hT)
        · rw [show bl.length + (k - (i + 1)) = k - i - 1 + bl.length by omega]
          exact hv7
        · rw [show k - (i + 1) = k - i - 1 by omega]
          exact Int.emod_lt_of_pos _ hbj
        · rw [hs5, ekk, List.append_assoc, show k - (i + 1) = k - i - 1 by omega]
          rfl
        · rw [hla5, ekk, show k - (i + 1) = k - i - 1 by omega]
          rfl
      · rintro H5 ⟨room5, ts, pre, R5, b5, M5, hpr5, hg5, hl5, hD5, hst5, hti, hv5, R50, R51, hs5, hla5⟩
        rw [en] at hti hv5 R51 hs5 hla5
        rw [Nat.sub_self] at hv5 R51 hs5 hla5
        have hs5 : Ar.stepsOf ((2 : Int) ^ w) lb.length (y * 2 ^ c) k (x * 2 ^ c) = pre := by
          rw [hs5]
          exact List.append_nil _
        have hla5 : Ar.lastOf ((2 : Int) ^ w) (y * 2 ^ c) k (x * 2 ^ c) = R5 := hla5
        rw [Ar.lastOf_eq hB hbpos k _ hR0 hRk] at hla5
        have hpb5 := b5.lst M4 prb.symm pbe hpb4
        -- lowered(..)[0]
        refine ⟨_, rfl, _, rfl, _, rfl, _, rfl, pb, _, rfl, .inl (SqL.of hpb5), _, rfl, pr, _, rfl, SqL.of hpr5, fun pc npc => ?_⟩
        rw [cut_take _ _ (by rw [List.length_map, List.length_map]; omega), List.length_map, ← List.map_take]
        have sc : Same H5 (upd H5 pc (.lst ((room5.take bl.length).map V.int))) := Same.new npc
        refine ⟨_, rfl, m, cA, eA, pc, w, c, room5.take bl.length, rfl, M5.same sc, hcw, upd_same, M5.ne npc, hg5.take _, by rw [List.length_take]; omega, fun H6 T6 p6 lr r6 g6 M6 np6 hp6 hg6 hl6 hr6 hv6 hT6 => ?_⟩
        have hD6 := g6.lst (M5.same sc) (sc _ _ hD5) De
        refine ⟨T6, _, 0, .ref p6, rfl, rfl, SqT.of hT6, atI_nat (j := 0) rfl, by show 2 ≤ sizeLine; decide, fun Tt nT => ?_⟩
        have sT : Same H6 (upd H6 Tt (.tup [.ref D, .ref p6])) := Same.new nT
        rw [Nat.add_zero] at hv5
        have hrest : Ar.val ((2 : Int) ^ w) lr = x % y := by
          rw [hv5, ← hla5, Int.mul_comm x, Int.mul_comm y, Int.mul_emod_mul_of_pos _ _ (pwp c), Int.mul_comm _ (x % y)] at hv6
          exact Ar.low_zero (pwp c) hr6 hv6
        have bH : ∀ b o, H b = some o → b ≠ cA → b ≠ eA → H5 b = some o := fun b o e h2 h3 => by
          have e3 := g13 b o e h2 h3
          have hbp : b ≠ pr := by
            have := (g1.trans g2) b o e h2 h3
            exact ne_of_none this npr
          exact b5 _ _ (b4 _ _ e3 hbp h2 h3) hbp h2 h3
        have gAll : Go cA eA H H6 := fun b o e h2 h3 => g6 _ _ (sc _ _ (bH b o e h2 h3)) h2 h3
        refine q _ Tt D p6 ts pre lr (gAll.same sT) (M6.same sT) upd_same (sT _ _ hD6) De ?_ ?_ ⟨c, k, N, ?_, ?_, hs5.symm⟩ (sT _ _ hp6) hg6 (by rw [hl6, List.length_take]; omega) hrest
        · exact hst5.mono (fun t xs e => sT _ _ (g6.tup (M5.same sc) (sc _ _ e)))
        · have := hst5.len
          omega
        · rw [tb1]
          exact kc1
        · rw [tb1]
          exact kc2
end Tb
set_option linter.all false
/-! signs; rows compared by their top digits -/
namespace Ar
theorem trunc_ok {a b : Int} (ha : a ≠ 0) (hb : b ≠ 0) : a.sign * b.sign * ((a.natAbs : Int) / (b.natAbs : Int)) = a.tdiv b ∧ a.sign * ((a.natAbs : Int) % (b.natAbs : Int)) = a.tmod b := by
  have pos : ∀ a b : Int, 0 < a → 0 < b → a.sign * b.sign * ((a.natAbs : Int) / (b.natAbs : Int)) = a.tdiv b ∧ a.sign * ((a.natAbs : Int) % (b.natAbs : Int)) = a.tmod b := fun a b h1 h2 => by
    rw [Int.sign_eq_one_of_pos h1, Int.sign_eq_one_of_pos h2, Int.natAbs_of_nonneg (Int.le_of_lt h1), Int.natAbs_of_nonneg (Int.le_of_lt h2), Int.tdiv_eq_ediv_of_nonneg (Int.le_of_lt h1), Int.tmod_eq_emod_of_nonneg (Int.le_of_lt h1)]
    omega
  have neg : ∀ a b : Int, 0 < a → (a.sign * b.sign * ((a.natAbs : Int) / (b.natAbs : Int)) = a.tdiv b ∧ a.sign * ((a.natAbs : Int) % (b.natAbs : Int)) = a.tmod b) → (-a).sign * b.sign * (((-a).natAbs : Int) / (b.natAbs : Int)) = (-a).tdiv b ∧ (-a).sign * (((-a).natAbs : Int) % (b.natAbs : Int)) = (-a).tmod b := fun a b _ h => by
    rw [Int.sign_neg, Int.natAbs_neg, Int.neg_tdiv, Int.neg_tmod, ← h.1, ← h.2, Int.neg_mul, Int.neg_mul, Int.neg_mul]
    exact ⟨rfl, rfl⟩
  have negb : ∀ a b : Int, (a.sign * b.sign * ((a.natAbs : Int) / (b.natAbs : Int)) = a.tdiv b ∧ a.sign * ((a.natAbs : Int) % (b.natAbs : Int)) = a.tmod b) → a.sign * (-b).sign * ((a.natAbs : Int) / ((-b).natAbs : Int)) = a.tdiv (-b) ∧ a.sign * ((a.natAbs : Int) % ((-b).natAbs : Int)) = a.tmod (-b) := fun a b h => by
    rw [Int.sign_neg, Int.natAbs_neg, Int.tdiv_neg, Int.tmod_neg, ← h.1, ← h.2, Int.mul_neg, Int.neg_mul]
    exact ⟨rfl, rfl⟩
  rcases Int.lt_or_lt_of_ne ha with h1 | h1
  · rcases Int.lt_or_lt_of_ne hb with h2 | h2
    · have := neg (-a) b (by omega) (by
        have := negb (-a) (-b) (pos (-a) (-b) (by omega) (by omega))
        rwa [Int.neg_neg] at this)
      rwa [Int.neg_neg] at this
    · have := neg (-a) b (by omega) (pos (-a) b (by omega) h2)
      rwa [Int.neg_neg] at this
  · rcases Int.lt_or_lt_of_ne hb with h2 | h2
    · have := negb a (-b) (pos a (-b) h1 (by omega))
      rwa [Int.neg_neg] at this
    · exact pos a b h1 h2
theorem trunc_small {a b : Int} (h : (a.natAbs : Int) < (b.natAbs : Int)) : a.tdiv b = 0 ∧ a.tmod b = a := by
  by_cases ha : a = 0
  · subst ha
    simp
  · have hb : b ≠ 0 := by omega
    obtain ⟨h1, h2⟩ := trunc_ok ha hb
    rw [Int.ediv_eq_zero_of_lt (by omega) h, Int.mul_zero] at h1
    rw [Int.emod_eq_of_lt (by omega) h, Int.sign_mul_natAbs] at h2
    exact ⟨h1.symm, h2.symm⟩
theorem tmod_facts (a : Int) {b : Int} (hb : b ≠ 0) : ((a.tmod b).natAbs : Int) < (b.natAbs : Int) ∧ (a.tmod b).natAbs ≤ a.natAbs ∧ (a.tdiv b).natAbs ≤ a.natAbs ∧ a.tmod b + b * a.tdiv b = a ∧ (0 ≤ a → 0 ≤ a.tmod b) ∧ (a ≤ 0 → a.tmod b ≤ 0) := by
  have hb1 : 0 < b.natAbs := by omega
  refine ⟨?_, ?_, ?_, Int.tmod_add_mul_tdiv a b, fun h => ?_, fun h => ?_⟩
  · rw [Int.natAbs_tmod]
    have := Nat.mod_lt a.natAbs hb1
    omega
  · rw [Int.natAbs_tmod]
    exact Nat.mod_le _ _
  · rw [Int.natAbs_tdiv]
    exact Nat.div_le_self _ _
  · rw [Int.tmod_eq_emod_of_nonneg h]
    exact Int.emod_nonneg _ hb
  · have h1 : 0 ≤ (-a).tmod b := by
      rw [Int.tmod_eq_emod_of_nonneg (by omega)]
      exact Int.emod_nonneg _ hb
    rw [Int.neg_tmod] at h1
    omega
theorem uniq_div {b q r q' r' : Int} (hb : b ≠ 0) (h : r + b * q = r' + b * q') (hr : (r - r').natAbs < b.natAbs) : q = q' ∧ r = r' := by
  have e : r - r' = b * (q' - q) := by rw [Int.mul_sub]; omega
  have hz : q' - q = 0 := by
    apply Classical.byContradiction
    intro hne
    have h1 : 1 ≤ (q' - q).natAbs := by omega
    have h2 : (r - r').natAbs = b.natAbs * (q' - q).natAbs := by rw [e, Int.natAbs_mul]
    have h3 : b.natAbs * 1 ≤ b.natAbs * (q' - q).natAbs := Nat.mul_le_mul_left _ h1
    omega
  rw [hz, Int.mul_zero] at e
  omega
theorem fmod_facts (a : Int) {b : Int} (hb : b ≠ 0) : a.fmod b + b * a.fdiv b = a ∧ (0 < b → 0 ≤ a.fmod b ∧ a.fmod b < b) ∧ (b < 0 → b < a.fmod b ∧ a.fmod b ≤ 0) := by
  refine ⟨Int.fmod_add_mul_fdiv a b, fun h => ⟨Int.fmod_nonneg_of_pos a h, Int.fmod_lt_of_pos a h⟩, fun h => ?_⟩
  have h1 := Int.fmod_nonneg_of_pos (-a) (b := -b) (by omega)
  have h2 := Int.fmod_lt_of_pos (-a) (b := -b) (by omega)
  rw [Int.neg_fmod_neg] at h1 h2
  omega
/-- rounded down from rounded to 0 -/
theorem floor_of_trunc (a : Int) {b : Int} (hb : b ≠ 0) : ((a.tmod b).sign * b.sign < 0 → a.fdiv b = a.tdiv b - 1 ∧ a.fmod b = a.tmod b + b) ∧ (¬ (a.tmod b).sign * b.sign < 0 → a.fdiv b = a.tdiv b ∧ a.fmod b = a.tmod b) := by
  obtain ⟨t1, _, _, t4, _, _⟩ := tmod_facts a hb
  obtain ⟨f1, f2, f3⟩ := fmod_facts a hb
  have sg : ∀ x : Int, (0 < x ∧ x.sign = 1) ∨ (x = 0 ∧ x.sign = 0) ∨ (x < 0 ∧ x.sign = -1) := fun x => by
    rcases Int.lt_trichotomy x 0 with h | h | h
    · exact .inr (.inr ⟨h, Int.sign_eq_neg_one_of_neg h⟩)
    · exact .inr (.inl ⟨h, by rw [h]; rfl⟩)
    · exact .inl ⟨h, Int.sign_eq_one_of_pos h⟩
  generalize a.tmod b = r at *
  generalize a.tdiv b = q at *
  constructor
  · intro h
    have e : a.fmod b + b * a.fdiv b = (r + b) + b * (q - 1) := by rw [Int.mul_sub, Int.mul_one]; omega
    have := uniq_div hb e (by
      rcases sg r with ⟨r1, r2⟩ | ⟨r1, r2⟩ | ⟨r1, r2⟩ <;> rcases sg b with ⟨b1, b2⟩ | ⟨b1, b2⟩ | ⟨b1, b2⟩ <;> rw [r2, b2] at h <;> first | omega | (have := f2 b1; omega) | (have := f3 b1; omega))
    omega
  · intro h
    have e : a.fmod b + b * a.fdiv b = r + b * q := by omega
    have := uniq_div hb e (by
      rcases sg r with ⟨r1, r2⟩ | ⟨r1, r2⟩ | ⟨r1, r2⟩ <;> rcases sg b with ⟨b1, b2⟩ | ⟨b1, b2⟩ | ⟨b1, b2⟩ <;> rw [r2, b2] at h <;> first | omega | (have := f2 b1; omega) | (have := f3 b1; omega))
    omega
/-! ### the first door -/
def topD (l : List Int) : Int := l[l.length - 1]?.getD 0
def belowB (a b : List Int) : Bool := decide (a.length < b.length) || (decide (a.length = b.length) && decide (topD a < topD b))
theorem top_some {l : List Int} (h : 0 < l.length) : l[l.length - 1]? = some (topD l) := by
  have hl : l.length - 1 < l.length := by omega
  unfold topD
  rw [List.getElem?_eq_getElem hl]
  rfl
theorem below_lt {B : Int} (hB : 1 < B) {a b : List Int} {x y : Int} (ha : Row B a x) (hb : Row B b y) (hy : y ≠ 0) (h : belowB a b = true) : x < y / B ^ (b.length - 1) * B ^ (b.length - 1) := by
  have hB0 : 0 < B := by omega
  have hbl := hb.pos hB0 hy
  obtain ⟨t1, t2, t3⟩ := hb.top hB0 (top_some hbl)
  have p1 := pw_pos hB0 (b.length - 1)
  rw [t1]
  unfold belowB at h
  simp only [Bool.or_eq_true, Bool.and_eq_true, decide_eq_true_eq] at h
  rcases h with h | ⟨h, h2⟩
  · have h1 := ha.lt hB0
    have mono : B ^ a.length ≤ B ^ (b.length - 1) := by
      rw [show b.length - 1 = a.length + (b.length - 1 - a.length) by omega, pw_add]
      have q1 := pw_pos hB0 a.length
      have q2 : 1 ≤ B ^ (b.length - 1 - a.length) := pw_pos hB0 _
      have := Int.mul_le_mul_of_nonneg_left q2 (Int.le_of_lt q1)
      omega
    have : 1 * B ^ (b.length - 1) ≤ topD b * B ^ (b.length - 1) := Int.mul_le_mul_of_nonneg_right t2 (Int.le_of_lt p1)
    omega
  · obtain ⟨s1, s2, s3⟩ := ha.top hB0 (top_some (by omega))
    rw [h] at s1
    have : x < (topD a + 1) * B ^ (b.length - 1) := by
      rw [← s1]
      exact lt_ediv_mul p1
    have : (topD a + 1) * B ^ (b.length - 1) ≤ topD b * B ^ (b.length - 1) := Int.mul_le_mul_of_nonneg_right h2 (Int.le_of_lt p1)
    omega
theorem below_lt' {B : Int} (hB : 1 < B) {a b : List Int} {x y : Int} (ha : Row B a x) (hb : Row B b y) (hy : y ≠ 0) (h : belowB a b = true) : x < y := by
  have := below_lt hB ha hb hy h
  have := ediv_mul_le' (a := y) (pw_pos (show 0 < B by omega) (b.length - 1))
  omega
theorem not_below {a b : List Int} (h : belowB a b = false) : b.length ≤ a.length := by
  unfold belowB at h
  simp only [Bool.or_eq_false_iff, decide_eq_false_iff_not] at h
  omega
/-- both times a power of the base -/
theorem below_shift {B : Int} (hB : 0 < B) {a b : List Int} {x y : Int} (ha : Row B a x) (hb : Row B b y) (hy : y ≠ 0) (hx : x ≠ 0) (t : Nat) (h : belowB a b = false) : belowB (List.replicate t 0 ++ a) (List.replicate t 0 ++ b) = false := by
  have la := ha.pos hB hx
  have lb := hb.pos hB hy
  have tp : ∀ l : List Int, 0 < l.length → topD (List.replicate t 0 ++ l) = topD l := fun l hl => by
    unfold topD
    rw [List.length_append, List.length_replicate, List.getElem?_append_right (by rw [List.length_replicate]; omega), List.length_replicate, show t + l.length - 1 - t = l.length - 1 by omega]
  unfold belowB at *
  rw [tp a la, tp b lb, List.length_append, List.length_append, List.length_replicate]
  simp only [Bool.or_eq_false_iff, Bool.and_eq_false_iff, decide_eq_false_iff_not] at *
  omega
end Ar
set_option Elab.async false
set_option linter.all false
set_option maxRecDepth 100000
set_option maxHeartbeats 4000000
/-! division of numbers: cut off -/
namespace Tb
open PySem PySem.Spec PyProof.Rows L2
variable {P : Program} {wd : World} {K : PySem.W.Frag} {mg : Str → Option Value} {base : Heap}
theorem StpsAt.rev {H : Hp} {ts : List Addr} {st : List Ar.Stp} (h : StpsAt H ts st) : StpsAt H ts.reverse st.reverse := by
  have key : ∀ {ts : List Addr} {st : List Ar.Stp}, Paired (fun t s => H t = some (.tup (stpV s))) ts st → StpsAt H ts.reverse st.reverse := by
    intro ts st h
    induction h with
    | nil => exact .nil
    | cons a _ ih =>
      rw [List.reverse_cons, List.reverse_cons]
      exact ih.snoc a
  exact key h
theorem StpsAt.get {H : Hp} {ts : List Addr} {st : List Ar.Stp} (h : StpsAt H ts st) {i : Nat} {t : Addr} (e : ts[i]? = some t) : ∃ s, st[i]? = some s ∧ H t = some (.tup (stpV s)) := by
  have key : ∀ {ts : List Addr} {st : List Ar.Stp}, Paired (fun t s => H t = some (.tup (stpV s))) ts st → ∀ {i : Nat} {t : Addr}, ts[i]? = some t → ∃ s, st[i]? = some s ∧ H t = some (.tup (stpV s)) := by
    intro ts st h
    induction h with
    | nil => intro i t e; simp at e
    | cons a _ ih =>
      intro i t e
      cases i with
      | zero =>
        have : _ = t := Option.some.inj e
        subst this
        exact ⟨_, rfl, a⟩
      | succ i => exact ih e
  exact key h e
def spLongDivided (K : PySem.W.Frag) : Sp := fun vs H Q _ => ∃ (m cA eA ta tb : Addr) (w : Nat) (la lb : List Int) (x y : Int), vs = [.ref m, .ref ta, .ref tb] ∧ Mach K H m cA eA w ∧ H ta = some (.tup (la.map V.int)) ∧ H tb = some (.tup (lb.map V.int)) ∧ Ar.Row ((2 : Int) ^ w) la x ∧ Ar.Row ((2 : Int) ^ w) lb y ∧ 2 ≤ lb.length ∧ lb.length ≤ la.length ∧ la.length ≤ 900 ∧
  ∀ H' Tt p pr (l lr : List Int), Go cA eA H H' → Mach K H' m cA eA w → H' Tt = some (.tup [.ref p, .ref pr]) → H' p = some (.lst (l.map V.int)) → Ar.Dg ((2 : Int) ^ w) l → l.length ≤ 1000 → Ar.val ((2 : Int) ^ w) l = x / y →
    H' pr = some (.lst (lr.map V.int)) → Ar.Dg ((2 : Int) ^ w) lr → lr.length ≤ 1000 → Ar.val ((2 : Int) ^ w) lr = x % y → Q (.ref Tt) H'
theorem ok_long_divided (T : Tx K mg) : Fn P wd K mg base 4 "long_divided" pLongDivided (spLongDivided K) := by
  have G_long_steps : Fn P wd K mg base 3 "long_steps" pLongSteps (spLongSteps K) := ok_long_steps T
  refine T.d_long_divided.ok scLongDivided (fun vs H Q E h => ?_) (fun f cdv A outer s0 H vs Q E hr h => ?_)
  · obtain ⟨m, cA, eA, ta, tb, w, la, lb, x, y, rfl, _⟩ := h
    rfl
  · obtain ⟨m, cA, eA, ta, tb, w, la, lb, x, y, rfl, M, hta, htb, Ra, Rb, hn2, hmn, hlm, q⟩ := h
    have hB := pwp w
    have hx0 := Ra.nn hB
    have hy0 : 0 < y := by
      have := Rb.ge hB (fun z => by rw [z] at hn2; simp at hn2)
      have := Ar.pw_pos hB (lb.length - 1)
      omega
    refine ⟨_, (pss_cons (ps_asg (pe_fn G_long_steps (hr.mono (by decide)) (pa_cons (pv 0) (pa_cons (pv 1) (pa_cons (pv 2) pa_nil)))) (pg_tup (by rfl) (pgs_cons (pg_name (i := 3) scLongDivided.nd rfl (.inl rfl)) (pgs_cons (pg_name (i := 4) scLongDivided.nd rfl (.inl rfl)) pgs_nil))))
        (pss_one (ps_ret (pe_tup (pa_cons (pe_lc (own := [("step", 5)]) (g := gName 5) (tt := tYes) rfl scLongDivided.nd (pi_list (pe_revL (pv 3))) (blkOk_by (own := [("step", 5)]) (N := nLongDivided) (sc := defScope sLongDivided) (by decide +kernel)) (fun _ _ _ _ _ => pg_name (i := 5) scLongDivided.nd rfl (Or.inl rfl)) (fun _ _ _ _ _ => pts_nil) (fun _ _ _ _ _ => (pe_ix (show IxR _ (rIxT K) from ix_tup) (pv 5) pe_int (fun _ _ => rfl)))) (pa_cons (pv 4) pa_nil)))))), ?_⟩
    refine ⟨_, rfl, _, rfl, _, rfl, m, cA, eA, ta, tb, w, la, lb, x, y, rfl, M, hta, htb, Ra, Rb, hn2, hmn, hlm, fun H1 T1 ps pr ts st lr g1 M1 hT1 hps hpe hst hsl hL hpr hgr hrl hvr => ?_⟩
    obtain ⟨qv, qd⟩ := hL.quot hx0 hy0
    refine ⟨T1, _, rfl, SqT.of hT1, rfl, _, _, rfl, _, _, rfl, rfl, ?_⟩
    refine ⟨_, rfl, ps, _, rfl, SqL.of hps, fun v nv => ?_⟩
    rw [← List.map_reverse]
    have sv : Same H1 (upd H1 v (.lst (ts.reverse.map V.ref))) := Same.new nv
    have hlen := hst.len
    refine ⟨v, rfl, ⟨_, SqL.of upd_same⟩, fun D nD => ?_⟩
    have Dv : D ≠ v := fun z => by
      rw [z, upd_same] at nD
      cases nD
    have nD1 : H1 D = none := sv.free nD
    refine lc_list (xs := ts.reverse.map V.ref) (fun i H2 => Same (upd H1 v (.lst (ts.reverse.map V.ref))) H2 ∧ H2 D = some (.lst (((st.reverse.map (·.dig)).take i).map V.int))) ⟨Same.new nD, upd_same⟩ (fun i H2 _ h => SqL.of (h.1 _ _ upd_same)) ?_ ?_
    · rintro i z H2 hz ⟨s2, hD⟩
      obtain ⟨t, ht, rfl⟩ : ∃ t, ts.reverse[i]? = some t ∧ z = .ref t := by
        rw [List.getElem?_map] at hz
        cases e : ts.reverse[i]? with
        | none => rw [e] at hz; cases hz
        | some t => rw [e] at hz; exact ⟨t, rfl, (Option.some.inj hz).symm⟩
      obtain ⟨s, hs, hts⟩ := hst.rev.get ht
      have hi : i < ts.length := by
        have := (List.getElem?_eq_some_iff.mp ht).1
        rwa [List.length_reverse] at this
      have hg : (st.reverse.map (·.dig))[i]? = some s.dig := by
        rw [List.getElem?_map, hs]
        rfl
      refine ⟨rfl, _, rfl, t, _, 3, .int s.dig, rfl, rfl, SqT.of (s2 _ _ (sv _ _ hts)), atI_nat (j := 3) rfl, _, hD, ?_, Same.mut s2 nD, ?_⟩
      · rw [List.length_map, List.length_take]
        exact szlt (by omega)
      · rw [upd_same, List.take_add_one, hg, List.map_append]
        rfl
    · rintro H2 ⟨s2, hD⟩
      rw [List.length_map, List.length_reverse, List.take_of_length_le (by rw [List.length_map, List.length_reverse]; omega)] at hD
      have s12 := sv.trans s2
      refine ⟨_, rfl, by show 2 ≤ sizeLine; decide, fun Tt nT => ?_⟩
      have sT : Same H2 (upd H2 Tt (.tup [.ref D, .ref pr])) := Same.new nT
      refine q _ Tt D pr _ lr (g1.same (s12.trans sT)) (M1.same (s12.trans sT)) upd_same (sT _ _ hD) ?_ (by rw [List.length_map, List.length_reverse]; exact hsl) qv (sT _ _ (s12 _ _ hpr)) hgr hrl hvr
      rw [List.map_reverse]
      exact qd.rev
/-! ### the first door -/
def spIsBelow : Sp := fun vs H Q _ => ∃ (t u : Addr) (a b : List Int), vs = [.ref t, .ref u] ∧ H t = some (.tup (a.map V.int)) ∧ H u = some (.tup (b.map V.int)) ∧ 0 < b.length ∧ Q (.bl (Ar.belowB a b)) H
theorem ok_is_below (T : Tx K mg) : Fn P wd K mg base 1 "is_below" pIsBelow spIsBelow := by
  refine T.d_is_below.ok scIsBelow (fun vs H Q E h => ?_) (fun f cdv A outer s0 H vs Q E hr h => ?_)
  · obtain ⟨t, u, a, b, rfl, _⟩ := h
    rfl
  · obtain ⟨t, u, a, b, rfl, ht, hu, hb, q⟩ := h
    refine ⟨_, (pss_one (ps_ret (pe_or (pe_cmpR op_lt (pe_callB call_len_seq (by rfl) T.z_len PySem.boot_len (pa_cons (pv 0) pa_nil)) (pe_callB call_len_seq (by rfl) T.z_len PySem.boot_len (pa_cons (pv 1) pa_nil)) (nomark _)) (pe_one (pe_and (pe_cmpR op_eq (pe_callB call_len_seq (by rfl) T.z_len PySem.boot_len (pa_cons (pv 0) pa_nil)) (pe_callB call_len_seq (by rfl) T.z_len PySem.boot_len (pa_cons (pv 1) pa_nil)) (nomark _)) (pe_one (pe_cmpR op_lt (pe_ix ix_tup (pv 0) (pe_un un_neg pe_int) (fun _ _ => rfl)) (pe_ix ix_tup (pv 1) (pe_un un_neg pe_int) (fun _ _ => rfl)) (nomark _)))))))), ?_⟩
    have el : decide (((a.map V.int).length : Int) < ((b.map V.int).length : Int)) = decide (a.length < b.length) := by
      rw [List.length_map, List.length_map]
      exact decide_eq_decide.mpr (by omega)
    have ee : decide (V.int ((a.map V.int).length : Int) = V.int ((b.map V.int).length : Int)) = decide (a.length = b.length) := by
      rw [List.length_map, List.length_map]
      exact decide_eq_decide.mpr ⟨fun z => by have := V.int.inj z; omega, fun z => by rw [z]⟩
    refine ⟨_, rfl, t, _, rfl, .inr (SqT.of ht), _, rfl, u, _, rfl, .inr (SqT.of hu), _, _, rfl, rfl, _, rfl, ?_⟩
    unfold Ar.belowB at q
    rw [el]
    cases c1 : decide (a.length < b.length) with
    | true =>
      rw [c1] at q
      exact q
    | false =>
      rw [c1, Bool.false_or] at q
      refine ⟨_, rfl, t, _, rfl, .inr (SqT.of ht), _, rfl, u, _, rfl, .inr (SqT.of hu), rfl, _, rfl, ?_⟩
      rw [ee]
      cases c2 : decide (a.length = b.length) with
      | false =>
        rw [c2, Bool.false_and] at q
        exact q
      | true =>
        rw [c2, Bool.true_and] at q
        have c2 := of_decide_eq_true c2
        have ta := Ar.top_some (l := a) (by omega)
        have tb := Ar.top_some hb
        refine ⟨_, rfl, 1, rfl, t, _, _, .int (Ar.topD a), rfl, rfl, SqT.of ht, at_end (k := 1) (by decide) (by rw [List.length_map]; omega) (by rw [List.length_map]; exact mapint_get ta), _, rfl, 1, rfl, u, _, _, .int (Ar.topD b), rfl, rfl, SqT.of hu, at_end (k := 1) (by decide) (by rw [List.length_map]; omega) (by rw [List.length_map]; exact mapint_get tb), _, _, rfl, rfl, ?_⟩
        exact q
/-! ### quotient and rest, rounded to 0 -/
def spDivs (K : PySem.W.Frag) (F G : Int → Int → Int) : Sp := fun vs H Q _ => ∃ (m cA eA x y : Addr) (w : Nat) (a b : Int), vs = [.ref m, .ref x, .ref y] ∧ Mach K H m cA eA w ∧ IsBig K H x w a ∧ IsBig K H y w b ∧ Sm a ∧ Sm b ∧ b ≠ 0 ∧
  ∀ H' Tt p r, Go cA eA H H' → Mach K H' m cA eA w → H' Tt = some (.tup [.ref p, .ref r]) → IsBig K H' p w (F a b) → IsBig K H' r w (G a b) → Q (.ref Tt) H'
/-- one of them -/
def spDiv1 (K : PySem.W.Frag) (F : Int → Int → Int) : Sp := fun vs H Q _ => ∃ (m cA eA x y : Addr) (w : Nat) (a b : Int), vs = [.ref m, .ref x, .ref y] ∧ Mach K H m cA eA w ∧ IsBig K H x w a ∧ IsBig K H y w b ∧ Sm a ∧ Sm b ∧ b ≠ 0 ∧
  ∀ H' p, Go cA eA H H' → Mach K H' m cA eA w → IsBig K H' p w (F a b) → Q (.ref p) H'
theorem sgn_ne {a : Int} (h : a ≠ 0) : a.sign = 1 ∨ a.sign = -1 := by
  rcases sign3 a with h1 | h1 | h1
  · exact .inl h1.1
  · exact absurd h1.2 h
  · exact .inr h1.1
theorem sgn_mul {a b : Int} (h : a = 1 ∨ a = -1) (h2 : b = 1 ∨ b = -1) : a * b = 1 ∨ a * b = -1 := by
  rcases h with rfl | rfl <;> rcases h2 with rfl | rfl
  · exact .inl rfl
  · exact .inr rfl
  · exact .inr rfl
  · exact .inl rfl
theorem ok_cut_off (T : Tx K mg) : Fn P wd K mg base 5 "cut_off" pCutOff (spDivs K Int.tdiv Int.tmod) := by
  have G_is_below : Fn P wd K mg base 1 "is_below" pIsBelow spIsBelow := ok_is_below T
  have G_big_of : Fn P wd K mg base 4 "big_of" pBigOf (spBigOf K) := ok_big_of T
  have G_short_divided : Fn P wd K mg base 2 "short_divided" pShortDivided (spShortDivided K) := ok_short_divided T
  have G_long_divided : Fn P wd K mg base 4 "long_divided" pLongDivided (spLongDivided K) := ok_long_divided T
  have G_made : Fn P wd K mg base 3 "made" pMade (spMade K) := ok_made T
  refine T.d_cut_off.ok scCutOff (fun vs H Q E h => ?_) (fun f cdv A outer s0 H vs Q E hr h => ?_)
  · obtain ⟨m, cA, eA, x, y, w, a, b, rfl, _⟩ := h
    rfl
  · obtain ⟨m, cA, eA, x, y, w, a, b, rfl, M, B1, B2, sa, sb, hb0, q⟩ := h
    obtain ⟨dx, tx, lx, hx, htx, Rx⟩ := B1.ex
    obtain ⟨dy, ty, ly, hy, hty, Ry⟩ := B2.ex
    have hB := pwp w
    have hB2 := pw8 M.w8
    have lenx := row_len M.w8 Rx sa.lt
    have leny := row_len M.w8 Ry sb.lt
    have ly0 := Ry.pos hB (by omega)
    refine ⟨_, (pss_cons (ps_if (pt_cmpR op_eq (pe_fld (pv 2) rfl) pe_int (nomark _)) pss_never pss_nil)
        (pss_cons (ps_if (pt_val (pe_fn G_is_below (hr.mono (by decide)) (pa_cons (pe_fld (pv 1) rfl) (pa_cons (pe_fld (pv 2) rfl) pa_nil)))) (pss_one (ps_ret (pe_tup (pa_cons (pe_fn G_big_of (hr.mono (by decide)) (pa_cons (pv 0) (pa_cons pe_int pa_nil))) (pa_cons (pv 1) pa_nil))))) pss_nil)
        (C8.pss_cut (ps_if (pt_cmpR op_eq (pe_callB call_len_seq (by rfl) T.z_len PySem.boot_len (pa_cons (pe_fld (pv 2) rfl) pa_nil)) pe_int (nomark _)) (pss_cons (ps_asg (pe_fn G_short_divided (hr.mono (by decide)) (pa_cons (pv 0) (pa_cons (pe_fld (pv 1) rfl) (pa_cons (pe_ix ix_tup (pe_fld (pv 2) rfl) pe_int (fun _ _ => rfl)) pa_nil)))) (pg_tup (by rfl) (pgs_cons (pg_name (i := 3) scCutOff.nd rfl (.inl rfl)) (pgs_cons (pg_name (i := 4) scCutOff.nd rfl (.inl rfl)) pgs_nil))))
        (pss_one (ps_set (i := 5) scCutOff.nd rfl (.inl rfl) (pe_lst (pa_cons (pv 4) pa_nil))))) (pss_one (ps_asg (pe_fn G_long_divided (hr.mono (by decide)) (pa_cons (pv 0) (pa_cons (pe_fld (pv 1) rfl) (pa_cons (pe_fld (pv 2) rfl) pa_nil)))) (pg_tup (by rfl) (pgs_cons (pg_name (i := 3) scCutOff.nd rfl (.inl rfl)) (pgs_cons (pg_name (i := 5) scCutOff.nd rfl (.inl rfl)) pgs_nil))))))
        (pss_one (ps_ret (pe_tup (pa_cons (pe_fn G_made (hr.mono (by decide)) (pa_cons (pv 0) (pa_cons (pe_op op_mul (pe_fld (pv 1) rfl) (pe_fld (pv 2) rfl)) (pa_cons (pv 3) pa_nil)))) (pa_cons (pe_fn G_made (hr.mono (by decide)) (pa_cons (pv 0) (pa_cons (pe_fld (pv 1) rfl) (pa_cons (pv 5) pa_nil)))) pa_nil)))))))), ?_⟩
    refine ⟨_, rfl, y, _, dy, _, _, rfl, hy, T.clB, T.nB_side, bf_side, rfl, _, rfl, ite2 (fun hz => ?_) (fun _ => ?_)⟩
    · have hz : b.sign = 0 := V.int.inj (of_decide_eq_true hz)
      rcases sgn_ne hb0 with z | z <;> rw [z] at hz <;> cases hz
    refine ⟨_, rfl, x, _, dx, _, _, rfl, hx, T.clB, T.nB_row, bf_row, _, rfl, y, _, dy, _, _, rfl, hy, T.clB, T.nB_row, bf_row, tx, ty, lx, ly, rfl, htx, hty, ly0, _, rfl, ite2 (fun hbel => ?_) (fun hbel => ?_)⟩
    · have hlt := Ar.below_lt' (by omega) Rx Ry (by omega) hbel
      obtain ⟨e1, e2⟩ := Ar.trunc_small hlt
      rw [e1, e2] at q
      refine ⟨_, rfl, m, cA, eA, w, 0, rfl, M, small_abs (by decide), fun H1 z s1 B => ⟨_, rfl, by show 2 ≤ sizeLine; decide, fun Tt nT => ?_⟩⟩
      have sT : Same H1 (upd H1 Tt (.tup [.ref z, .ref x])) := Same.new nT
      exact q _ Tt z x (Same.go (s1.trans sT)) (M.same (s1.trans sT)) upd_same (B.same sT) (B1.same (s1.trans sT))
    · have hbel : Ar.belowB lx ly = false := by
        cases e : Ar.belowB lx ly with
        | false => rfl
        | true => exact absurd e hbel
      have hle := Ar.not_below hbel
      have ha0 : a ≠ 0 := fun z => by
        subst z
        have e0 := Rx.zero hB
        rw [e0] at hle
        simp only [List.length_nil] at hle
        omega
      obtain ⟨e1, e2⟩ := Ar.trunc_ok ha0 hb0
      refine ⟨fun σ H' => ∃ (p pr : Addr) (l lr : List Int) (o : Option V), σ = [some (.ref m), some (.ref x), some (.ref y), some (.ref p), o, some (.ref pr)] ∧ Go cA eA H H' ∧ Mach K H' m cA eA w ∧ H' p = some (.lst (l.map V.int)) ∧ Ar.Dg ((2 : Int) ^ w) l ∧ l.length ≤ 1000 ∧ Ar.val ((2 : Int) ^ w) l = (a.natAbs : Int) / (b.natAbs : Int) ∧ H' pr = some (.lst (lr.map V.int)) ∧ Ar.Dg ((2 : Int) ^ w) lr ∧ lr.length ≤ 1000 ∧ Ar.val ((2 : Int) ^ w) lr = (a.natAbs : Int) % (b.natAbs : Int), ?_, ?_⟩
      · refine ⟨_, rfl, y, _, dy, _, _, rfl, hy, T.clB, T.nB_row, bf_row, ty, _, rfl, .inr (SqT.of hty), rfl, _, rfl, ite2 (fun h1 => ?_) (fun h1 => ?_)⟩
        · have h1 : ((ly.map V.int).length : Int) = 1 := V.int.inj (of_decide_eq_true h1)
          rw [List.length_map] at h1
          have gt := Ar.top_some ly0
          obtain ⟨t1, t2, t3⟩ := Ry.top hB gt
          have hl1 : ly.length - 1 = 0 := by omega
          rw [hl1] at gt t1
          rw [Int.pow_zero, Int.ediv_one] at t1
          refine ⟨_, rfl, _, rfl, x, _, dx, _, _, rfl, hx, T.clB, T.nB_row, bf_row, _, rfl, y, _, dy, _, _, rfl, hy, T.clB, T.nB_row, bf_row, ty, _, 0, .int (Ar.topD ly), rfl, rfl, SqT.of hty, atI_nat (j := 0) (mapint_get gt), m, cA, eA, tx, w, lx, Ar.topD ly, rfl, M, htx, Rx.dg, by omega, t2, t3, fun H1 Tt p l2 r g1 M1 hp hg2 hl2 hrr hv hT => ?_⟩
          refine ⟨Tt, _, rfl, SqT.of hT, rfl, _, _, rfl, _, _, rfl, rfl, ?_⟩
          refine ⟨_, rfl, by show 1 ≤ sizeLine; decide, fun pr npr => ?_⟩
          have sp : Same H1 (upd H1 pr (.lst [.int r])) := Same.new npr
          rw [Rx.vl] at hv
          rw [← t1] at hv hrr
          have hbn : (0 : Int) < (b.natAbs : Int) := by omega
          refine ⟨p, pr, l2, [r], _, rfl, g1.same sp, M1.same sp, sp _ _ hp, hg2, by omega, ?_, upd_same, Ar.Dg.cons ⟨hrr.1, by omega⟩ Ar.Dg.nil, by show 1 ≤ 1000; decide, ?_⟩
          · rw [← hv, Int.add_comm, Int.add_mul_ediv_right _ _ (Int.ne_of_gt hbn), Int.ediv_eq_zero_of_lt hrr.1 hrr.2, Int.zero_add]
          · rw [← hv, Int.add_comm, Int.add_mul_emod_self_right, Int.emod_eq_of_lt hrr.1 hrr.2]
            show r + _ * 0 = r
            omega
        · have h1 : ¬ ((ly.map V.int).length : Int) = 1 := fun z => h1 (decide_eq_true (congrArg V.int z))
          rw [List.length_map] at h1
          refine ⟨_, rfl, _, rfl, x, _, dx, _, _, rfl, hx, T.clB, T.nB_row, bf_row, _, rfl, y, _, dy, _, _, rfl, hy, T.clB, T.nB_row, bf_row, m, cA, eA, tx, ty, w, lx, ly, _, _, rfl, M, htx, hty, Rx, Ry, by omega, hle, by omega, fun H1 Tt p pr l lr g1 M1 hT hp hg hl hv hpr hgr hlr hvr => ?_⟩
          exact ⟨Tt, _, rfl, SqT.of hT, rfl, _, _, rfl, _, _, rfl, rfl, p, pr, l, lr, none, rfl, g1, M1, hp, hg, hl, hv, hpr, hgr, hlr, hvr⟩
      · rintro σ H1 ⟨p, pr, l, lr, o, rfl, g1, M1, hp, hg, hl, hv, hpr, hgr, hlr, hvr⟩
        have hx1 := g1.ins M hx
        have hy1 := g1.ins M hy
        refine ⟨_, rfl, _, rfl, x, _, dx, _, _, rfl, hx1, T.clB, T.nB_side, bf_side, _, rfl, y, _, dy, _, _, rfl, hy1, T.clB, T.nB_side, bf_side, _, _, rfl, rfl, .inl ?_, ?_⟩
        · rcases sgn_ne ha0 with z | z <;> rw [z] <;> exact ⟨by decide, by decide⟩
        refine ⟨_, rfl, m, cA, eA, p, w, a.sign * b.sign, l, rfl, M1, hp, hg, by omega, ?_, fun H2 z s2 C1 => ?_⟩
        · rcases sgn_mul (sgn_ne ha0) (sgn_ne hb0) with z | z
          · exact .inl z
          · exact .inr (.inl z)
        rw [hv, e1] at C1
        refine ⟨_, rfl, _, rfl, x, _, dx, _, _, rfl, s2 _ _ hx1, T.clB, T.nB_side, bf_side, _, rfl, m, cA, eA, pr, w, a.sign, lr, rfl, M1.same s2, s2 _ _ hpr, hgr, by omega, ?_, fun H3 z2 s3 C2 => ⟨by show 2 ≤ sizeLine; decide, fun Tt nT => ?_⟩⟩
        · rcases sgn_ne ha0 with z | z
          · exact .inl z
          · exact .inr (.inl z)
        rw [hvr, e2] at C2
        have sT : Same H3 (upd H3 Tt (.tup [.ref z, .ref z2])) := Same.new nT
        exact q _ Tt z z2 (g1.same ((s2.trans s3).trans sT)) (M1.same ((s2.trans s3).trans sT)) upd_same (C1.same (s3.trans sT)) (C2.same sT)
end Tb
set_option Elab.async false
set_option linter.all false
set_option maxRecDepth 100000
set_option maxHeartbeats 4000000
/-! division of numbers: rounded down, the rest alone, the doors -/
namespace Tb
open PySem PySem.Spec PyProof.Rows L2
/-- divmod by any divisor but 0 -/
def CDivZ (i j : Int) : Prop := j ≠ 0 ∧ Builtin.divisionGoesByPylong i j = false
theorem call_divmodZ {X : Cx} : CallR X (.builtin "divmod") (fun xs H Q => ∃ i j, xs = [.int i, .int j] ∧ CDivZ i j ∧ ∀ p, H p = none → Q (.ref p) (upd H p (.tup [.int (i.fdiv j), .int (i.fmod j)]))) := by
  intro pins s σ H xs us Q I r h
  obtain ⟨i, j, rfl, ⟨h1, h2⟩, q⟩ := h
  obtain ⟨u, w', rfl, ⟨t, rfl⟩, ⟨t', rfl⟩⟩ := vals2 r
  refine divmod_int h1 ?_ (.inl h2)
  have hn : H s.heap.objs.size = none := I.hok.fresh (Nat.le_refl _)
  refine ⟨.ref s.heap.objs.size, _, ?_, rfl, q _ hn⟩
  refine I.laid (fun b o e => Heap.get?_push_of_some _ e) (Nat.le_refl _) ⟨by simp only [List.length_cons, List.length_nil]; rw [sizeLine_eq]; decide, [.int (i.fdiv j) s.toks, .int (i.fmod j) (s.toks + 1)], .cons ⟨_, rfl⟩ (.cons ⟨_, rfl⟩ .nil), ?_⟩
  exact ⟨_, Heap.get?_push_size s.heap rfl, rfl, 0, rfl⟩
variable {P : Program} {wd : World} {K : PySem.W.Frag} {mg : Str → Option Value} {base : Heap}
def spAreDigits (K : PySem.W.Frag) : Sp := fun vs H Q _ => ∃ (x y : Addr) (w : Nat) (a b : Int), vs = [.ref x, .ref y] ∧ IsBig K H x w a ∧ IsBig K H y w b ∧ ∀ k : Bool, (k = true → (a.natAbs : Int) < 2 ^ w ∧ (b.natAbs : Int) < 2 ^ w) → Q (.bl k) H
theorem ok_are_digits (T : Tx K mg) : Fn P wd K mg base 1 "are_digits" pAreDigits (spAreDigits K) := by
  refine T.d_are_digits.ok scAreDigits (fun vs H Q E h => ?_) (fun f cdv A outer s0 H vs Q E hr h => ?_)
  · obtain ⟨x, y, w, a, b, rfl, _⟩ := h
    rfl
  · obtain ⟨x, y, w, a, b, rfl, B1, B2, q⟩ := h
    obtain ⟨dx, tx, lx, hx, htx, Rx⟩ := B1.ex
    obtain ⟨dy, ty, ly, hy, hty, Ry⟩ := B2.ex
    refine ⟨_, (pss_one (ps_ret (pe_and (pe_cmpR op_eq (pe_callB call_len_seq (by rfl) T.z_len PySem.boot_len (pa_cons (pe_fld (pv 0) rfl) pa_nil)) pe_int (nomark _)) (pe_one (pe_cmpR op_eq (pe_callB call_len_seq (by rfl) T.z_len PySem.boot_len (pa_cons (pe_fld (pv 1) rfl) pa_nil)) pe_int (nomark _)))))), ?_⟩
    refine ⟨_, rfl, x, _, dx, _, _, rfl, hx, T.clB, T.nB_row, bf_row, tx, _, rfl, .inr (SqT.of htx), rfl, _, rfl, ?_⟩
    cases c1 : decide (V.int ((lx.map V.int).length : Int) = V.int 1) with
    | false => exact q false (fun z => by cases z)
    | true =>
      have c1 : ((lx.map V.int).length : Int) = 1 := V.int.inj (of_decide_eq_true c1)
      rw [List.length_map] at c1
      refine ⟨_, rfl, y, _, dy, _, _, rfl, hy, T.clB, T.nB_row, bf_row, ty, _, rfl, .inr (SqT.of hty), rfl, ?_⟩
      refine q _ (fun c2 => ?_)
      have c2 : ((ly.map V.int).length : Int) = 1 := V.int.inj (of_decide_eq_true c2)
      rw [List.length_map] at c2
      exact ⟨(compact_iff Rx).mp (by omega), (compact_iff Ry).mp (by omega)⟩
theorem sm_le {a b : Int} (h : a.natAbs ≤ b.natAbs) (hb : Sm b) : Sm a := Nat.lt_of_le_of_lt h hb
theorem fsm {w : Nat} {a b : Int} (h : w ≤ 30) (ha : (a.natAbs : Int) < 2 ^ w) (hb : (b.natAbs : Int) < 2 ^ w) (hb0 : b ≠ 0) : Sm (a.fdiv b) ∧ Sm (a.fmod b) := by
  have e := pw30 h
  obtain ⟨t1, t2, t3, _⟩ := Ar.tmod_facts a hb0
  obtain ⟨f1, f2⟩ := Ar.floor_of_trunc a hb0
  by_cases z : (a.tmod b).sign * b.sign < 0
  · obtain ⟨g1, g2⟩ := f1 z
    rw [g1, g2]
    exact ⟨small_abs (by omega), small_abs (by omega)⟩
  · obtain ⟨g1, g2⟩ := f2 z
    rw [g1, g2]
    exact ⟨small_abs (by omega), small_abs (by omega)⟩
theorem sg_bd (a : Int) : -(2 ^ 64) < a.sign ∧ a.sign < 2 ^ 64 := by
  rcases sign3 a with ⟨h, _⟩ | ⟨h, _⟩ | ⟨h, _⟩ <;> rw [h] <;> exact ⟨by decide, by decide⟩
theorem ok_floored (T : Tx K mg) : Fn P wd K mg base 6 "floored" pFloored (spDivs K Int.fdiv Int.fmod) := by
  have G_are_digits : Fn P wd K mg base 1 "are_digits" pAreDigits (spAreDigits K) := ok_are_digits T
  have G_count : Mt P wd K mg base 1 (cM K) "count" pMCount (spMCount K) := ok_count T
  have G_value_of : Fn P wd K mg base 1 "value_of" pValueOf (spValueOf K) := ok_value_of T
  have G_big_of : Fn P wd K mg base 4 "big_of" pBigOf (spBigOf K) := ok_big_of T
  have G_cut_off : Fn P wd K mg base 5 "cut_off" pCutOff (spDivs K Int.tdiv Int.tmod) := ok_cut_off T
  have G_added : Fn P wd K mg base 5 "added" pAdded (spAdded K) := ok_added T
  have G_subtracted : Fn P wd K mg base 5 "subtracted" pSubtracted (spSubtracted K) := ok_subtracted T
  refine T.d_floored.ok scFloored (fun vs H Q E h => ?_) (fun f cdv A outer s0 H vs Q E hr h => ?_)
  · obtain ⟨m, cA, eA, x, y, w, a, b, rfl, _⟩ := h
    rfl
  · obtain ⟨m, cA, eA, x, y, w, a, b, rfl, M, B1, B2, sa, sb, hb0, q⟩ := h
    obtain ⟨dm, lim, h1⟩ := M.ob
    obtain ⟨t1, t2, t3, _⟩ := Ar.tmod_facts a hb0
    obtain ⟨f1, f2⟩ := Ar.floor_of_trunc a hb0
    have h8 := M.w8
    have h30 := M.w30
    have e30 := pw30 h30
    refine ⟨_, (pss_cons (ps_if (pt_val (pe_fn G_are_digits (hr.mono (by decide)) (pa_cons (pv 1) (pa_cons (pv 2) pa_nil)))) (pss_cons (ps_expr (pe_mt G_count (hr.mono (by decide)) (pv 0) (pa_cons pe_str (pa_cons pe_int pa_nil))))
        (pss_cons (ps_asg (pe_callB call_divmodZ (by rfl) T.z_divmod (by decide +kernel) (pa_cons (pe_fn G_value_of (hr.mono (by decide)) (pa_cons (pv 1) pa_nil)) (pa_cons (pe_fn G_value_of (hr.mono (by decide)) (pa_cons (pv 2) pa_nil)) pa_nil))) (pg_tup (by rfl) (pgs_cons (pg_name (i := 3) scFloored.nd rfl (.inl rfl)) (pgs_cons (pg_name (i := 4) scFloored.nd rfl (.inl rfl)) pgs_nil))))
        (pss_one (ps_ret (pe_tup (pa_cons (pe_fn G_big_of (hr.mono (by decide)) (pa_cons (pv 0) (pa_cons (pv 3) pa_nil))) (pa_cons (pe_fn G_big_of (hr.mono (by decide)) (pa_cons (pv 0) (pa_cons (pv 4) pa_nil))) pa_nil))))))) pss_nil)
        (pss_cons (ps_asg (pe_fn G_cut_off (hr.mono (by decide)) (pa_cons (pv 0) (pa_cons (pv 1) (pa_cons (pv 2) pa_nil)))) (pg_tup (by rfl) (pgs_cons (pg_name (i := 3) scFloored.nd rfl (.inl rfl)) (pgs_cons (pg_name (i := 4) scFloored.nd rfl (.inl rfl)) pgs_nil))))
        (C8.pss_cut (ps_if (pt_cmpR op_lt (pe_op op_mul (pe_fld (pv 4) rfl) (pe_fld (pv 2) rfl)) pe_int (nomark _)) (pss_cons (ps_set (i := 4) scFloored.nd rfl (.inl rfl) (pe_fn G_added (hr.mono (by decide)) (pa_cons (pv 0) (pa_cons (pv 4) (pa_cons (pv 2) pa_nil)))))
        (pss_one (ps_set (i := 3) scFloored.nd rfl (.inl rfl) (pe_fn G_subtracted (hr.mono (by decide)) (pa_cons (pv 0) (pa_cons (pv 3) (pa_cons (pe_fn G_big_of (hr.mono (by decide)) (pa_cons (pv 0) (pa_cons pe_int pa_nil))) pa_nil))))))) pss_nil)
        (pss_one (ps_ret (pe_tup (pa_cons (pv 3) (pa_cons (pv 4) pa_nil)))))))), ?_⟩
    refine ⟨_, rfl, _, rfl, x, y, w, a, b, rfl, B1, B2, fun k hk => ⟨_, rfl, ite2 (fun hk1 => ?_) (fun hk1 => ?_)⟩⟩
    · obtain ⟨ka, kb⟩ := hk hk1
      obtain ⟨s1, s2⟩ := fsm h30 ka kb hb0
      refine ⟨_, rfl, m, dm, _, rfl, h1, mf_count, m, cA, eA, w, "short", 1, rfl, M, by decide +kernel, fun H1 g1 M1 => ?_⟩
      refine ⟨_, rfl, x, w, a, rfl, B1.go g1 M, h8, h30, sa, fun H2 s12 => ⟨_, rfl, y, w, b, rfl, (B2.go g1 M).same s12, h8, h30, sb, fun H3 s23 => ?_⟩⟩
      refine ⟨a, b, rfl, ⟨hb0, PyProof.noPylong_small (by omega)⟩, fun Tt nT => ?_⟩
      have s13 := (s12.trans s23).trans (Same.new (o := .tup [.int (a.fdiv b), .int (a.fmod b)]) nT)
      refine ⟨Tt, _, rfl, SqT.of upd_same, rfl, _, _, rfl, _, _, rfl, rfl, ?_⟩
      refine ⟨_, rfl, _, rfl, m, cA, eA, w, _, rfl, M1.same s13, s1, fun H4 z s34 C1 => ?_⟩
      refine ⟨_, rfl, _, rfl, m, cA, eA, w, _, rfl, (M1.same s13).same s34, s2, fun H5 z2 s45 C2 => ⟨by show 2 ≤ sizeLine; decide, fun T5 nT5 => ?_⟩⟩
      have sT : Same H5 (upd H5 T5 (.tup [.ref z, .ref z2])) := Same.new nT5
      have sAll := s13.trans (s34.trans (s45.trans sT))
      exact q _ T5 z z2 (g1.same sAll) (M1.same sAll) upd_same (C1.same (s45.trans sT)) (C2.same sT)
    · refine ⟨_, rfl, _, rfl, _, rfl, m, cA, eA, x, y, w, a, b, rfl, M, B1, B2, sa, sb, hb0, fun H1 T1 p r g1 M1 hT C1 C2 => ?_⟩
      have B2' := B2.go g1 M
      obtain ⟨dy, ty, ly, hy, hty, Ry⟩ := B2'.ex
      obtain ⟨dr, tr, lr, hrr, htr, Rr⟩ := C2.ex
      refine ⟨T1, _, rfl, SqT.of hT, rfl, _, _, rfl, _, _, rfl, rfl, ?_⟩
      refine ⟨fun σ H' => ∃ p r : Addr, σ = [some (.ref m), some (.ref x), some (.ref y), some (.ref p), some (.ref r)] ∧ Go cA eA H H' ∧ Mach K H' m cA eA w ∧ IsBig K H' p w (a.fdiv b) ∧ IsBig K H' r w (a.fmod b), ?_, ?_⟩
      · refine ⟨_, rfl, r, _, dr, _, _, rfl, hrr, T.clB, T.nB_side, bf_side, _, rfl, y, _, dy, _, _, rfl, hy, T.clB, T.nB_side, bf_side, _, _, rfl, rfl, .inl (sg_bd _), _, _, rfl, rfl, _, rfl, ite2 (fun hz => ?_) (fun hz => ?_)⟩
        · have hz : (a.tmod b).sign * b.sign < 0 := of_decide_eq_true hz
          obtain ⟨e1, e2⟩ := f1 hz
          refine ⟨_, rfl, _, rfl, _, rfl, m, cA, eA, r, y, w, _, _, rfl, M1, C2, B2', sm_le t2 sa, sb, fun H2 z g2 M2 C3 => ?_⟩
          refine ⟨_, rfl, _, rfl, _, rfl, m, cA, eA, w, 1, rfl, M2, small_abs (by decide), fun H3 o s3 C4 => ?_⟩
          refine ⟨m, cA, eA, p, o, w, _, 1, rfl, M2.same s3, (C1.go g2 M1).same s3, C4, sm_le t3 sa, small_abs (by decide), fun H4 z4 g4 M4 C5 => ?_⟩
          rw [e1, e2]
          exact ⟨z4, z, rfl, (g1.trans (g2.same s3)).trans g4, M4, C5, (C3.same s3).go g4 (M2.same s3)⟩
        · have hz : ¬ (a.tmod b).sign * b.sign < 0 := fun z => hz (decide_eq_true z)
          obtain ⟨e1, e2⟩ := f2 hz
          rw [e1, e2]
          exact ⟨p, r, rfl, g1, M1, C1, C2⟩
      · rintro σ H2 ⟨p, r, rfl, g2, M2, D1, D2⟩
        refine ⟨_, rfl, _, rfl, by show 2 ≤ sizeLine; decide, fun T5 nT5 => ?_⟩
        have sT : Same H2 (upd H2 T5 (.tup [.ref p, .ref r])) := Same.new nT5
        exact q _ T5 p r (g2.same sT) (M2.same sT) upd_same (D1.same sT) (D2.same sT)
theorem ok_floor_of (T : Tx K mg) : Fn P wd K mg base 7 "floor_of" pFloorOf (spDiv1 K Int.fdiv) := by
  have G_floored : Fn P wd K mg base 6 "floored" pFloored (spDivs K Int.fdiv Int.fmod) := ok_floored T
  refine T.d_floor_of.ok scFloorOf (fun vs H Q E h => ?_) (fun f cdv A outer s0 H vs Q E hr h => ?_)
  · obtain ⟨m, cA, eA, x, y, w, a, b, rfl, _⟩ := h
    rfl
  · obtain ⟨m, cA, eA, x, y, w, a, b, rfl, M, B1, B2, sa, sb, hb0, q⟩ := h
    refine ⟨_, (pss_one (ps_ret (pe_ix ix_tup (pe_fn G_floored (hr.mono (by decide)) (pa_cons (pv 0) (pa_cons (pv 1) (pa_cons (pv 2) pa_nil)))) pe_int (fun _ _ => rfl)))), ?_⟩
    refine ⟨_, rfl, _, rfl, _, rfl, m, cA, eA, x, y, w, a, b, rfl, M, B1, B2, sa, sb, hb0, fun H1 T1 p r g1 M1 hT C1 C2 => ?_⟩
    exact ⟨T1, _, 0, .ref p, rfl, rfl, SqT.of hT, atI_nat (j := 0) rfl, q H1 p g1 M1 C1⟩
theorem ok_rest_of (T : Tx K mg) : Fn P wd K mg base 5 "rest_of" pRestOf (spDiv1 K Int.tmod) := by
  have G_is_below : Fn P wd K mg base 1 "is_below" pIsBelow spIsBelow := ok_is_below T
  have G_short_rest : Fn P wd K mg base 2 "short_rest" pShortRest (spShortRest K) := ok_short_rest T
  have G_long_divided : Fn P wd K mg base 4 "long_divided" pLongDivided (spLongDivided K) := ok_long_divided T
  have G_made : Fn P wd K mg base 3 "made" pMade (spMade K) := ok_made T
  refine T.d_rest_of.ok scRestOf (fun vs H Q E h => ?_) (fun f cdv A outer s0 H vs Q E hr h => ?_)
  · obtain ⟨m, cA, eA, x, y, w, a, b, rfl, _⟩ := h
    rfl
  · obtain ⟨m, cA, eA, x, y, w, a, b, rfl, M, B1, B2, sa, sb, hb0, q⟩ := h
    obtain ⟨dx, tx, lx, hx, htx, Rx⟩ := B1.ex
    obtain ⟨dy, ty, ly, hy, hty, Ry⟩ := B2.ex
    have hB := pwp w
    have hB2 := pw8 M.w8
    have lenx := row_len M.w8 Rx sa.lt
    have leny := row_len M.w8 Ry sb.lt
    have ly0 := Ry.pos hB (by omega)
    refine ⟨_, (pss_cons (ps_if (pt_cmpR op_eq (pe_fld (pv 2) rfl) pe_int (nomark _)) pss_never pss_nil)
        (pss_cons (ps_if (pt_val (pe_fn G_is_below (hr.mono (by decide)) (pa_cons (pe_fld (pv 1) rfl) (pa_cons (pe_fld (pv 2) rfl) pa_nil)))) (pss_one (ps_ret (pv 1))) pss_nil)
        (pss_cons (ps_if (pt_cmpR op_eq (pe_callB call_len_seq (by rfl) T.z_len PySem.boot_len (pa_cons (pe_fld (pv 2) rfl) pa_nil)) pe_int (nomark _)) (pss_one (ps_ret (pe_fn G_made (hr.mono (by decide)) (pa_cons (pv 0) (pa_cons (pe_fld (pv 1) rfl) (pa_cons (pe_lst (pa_cons (pe_fn G_short_rest (hr.mono (by decide)) (pa_cons (pv 0) (pa_cons (pe_fld (pv 1) rfl) (pa_cons (pe_ix ix_tup (pe_fld (pv 2) rfl) pe_int (fun _ _ => rfl)) pa_nil)))) pa_nil)) pa_nil)))))) pss_nil)
        (pss_one (ps_ret (pe_fn G_made (hr.mono (by decide)) (pa_cons (pv 0) (pa_cons (pe_fld (pv 1) rfl) (pa_cons (pe_ix ix_tup (pe_fn G_long_divided (hr.mono (by decide)) (pa_cons (pv 0) (pa_cons (pe_fld (pv 1) rfl) (pa_cons (pe_fld (pv 2) rfl) pa_nil)))) pe_int (fun _ _ => rfl)) pa_nil))))))))), ?_⟩
    refine ⟨_, rfl, y, _, dy, _, _, rfl, hy, T.clB, T.nB_side, bf_side, rfl, _, rfl, ite2 (fun hz => ?_) (fun _ => ?_)⟩
    · have hz : b.sign = 0 := V.int.inj (of_decide_eq_true hz)
      rcases sgn_ne hb0 with z | z <;> rw [z] at hz <;> cases hz
    refine ⟨_, rfl, x, _, dx, _, _, rfl, hx, T.clB, T.nB_row, bf_row, _, rfl, y, _, dy, _, _, rfl, hy, T.clB, T.nB_row, bf_row, tx, ty, lx, ly, rfl, htx, hty, ly0, _, rfl, ite2 (fun hbel => ?_) (fun hbel => ?_)⟩
    · have hlt := Ar.below_lt' (by omega) Rx Ry (by omega) hbel
      obtain ⟨e1, e2⟩ := Ar.trunc_small hlt
      rw [e2] at q
      exact ⟨_, rfl, q H x Go.refl M B1⟩
    · have hbel : Ar.belowB lx ly = false := by
        cases e : Ar.belowB lx ly with
        | false => rfl
        | true => exact absurd e hbel
      have hle := Ar.not_below hbel
      have ha0 : a ≠ 0 := fun z => by
        subst z
        have e0 := Rx.zero hB
        rw [e0] at hle
        simp only [List.length_nil] at hle
        omega
      obtain ⟨e1, e2⟩ := Ar.trunc_ok ha0 hb0
      have hsg : a.sign = 1 ∨ a.sign = -1 ∨ a.sign = 0 ∧ False := by
        rcases sgn_ne ha0 with z | z
        · exact .inl z
        · exact .inr (.inl z)
      refine ⟨_, rfl, y, _, dy, _, _, rfl, hy, T.clB, T.nB_row, bf_row, ty, _, rfl, .inr (SqT.of hty), rfl, _, rfl, ite2 (fun h1 => ?_) (fun h1 => ?_)⟩
      · have h1 : ((ly.map V.int).length : Int) = 1 := V.int.inj (of_decide_eq_true h1)
        rw [List.length_map] at h1
        have gt := Ar.top_some ly0
        obtain ⟨t1, t2, t3⟩ := Ry.top hB gt
        have hl1 : ly.length - 1 = 0 := by omega
        rw [hl1] at gt t1
        rw [Int.pow_zero, Int.ediv_one] at t1
        have m0 := Int.emod_nonneg (Ar.val ((2 : Int) ^ w) lx) (Int.ne_of_gt t2)
        have m1 := Int.emod_lt_of_pos (Ar.val ((2 : Int) ^ w) lx) t2
        refine ⟨_, rfl, _, rfl, x, _, dx, _, _, rfl, hx, T.clB, T.nB_side, bf_side, _, rfl, _, rfl, x, _, dx, _, _, rfl, hx, T.clB, T.nB_row, bf_row, _, rfl, y, _, dy, _, _, rfl, hy, T.clB, T.nB_row, bf_row, ty, _, 0, .int (Ar.topD ly), rfl, rfl, SqT.of hty, atI_nat (j := 0) (mapint_get gt), m, cA, eA, tx, w, lx, Ar.topD ly, rfl, M, htx, Rx.dg, by omega, t2, t3, fun H1 g1 M1 => ⟨by show 1 ≤ sizeLine; decide, fun p np => ?_⟩⟩
        have sp : Same H1 (upd H1 p (.lst [.int (Ar.val ((2 : Int) ^ w) lx % Ar.topD ly)])) := Same.new np
        refine ⟨m, cA, eA, p, w, a.sign, [Ar.val ((2 : Int) ^ w) lx % Ar.topD ly], rfl, M1.same sp, upd_same, Ar.Dg.cons ⟨m0, by omega⟩ Ar.Dg.nil, by show 1 ≤ 10000; decide, ?_, fun H2 z s2 C => ?_⟩
        · rcases hsg with z | z | z
          · exact .inl z
          · exact .inr (.inl z)
          · exact z.2.elim
        have ev : Ar.val ((2 : Int) ^ w) [Ar.val ((2 : Int) ^ w) lx % Ar.topD ly] = (a.natAbs : Int) % (b.natAbs : Int) := by
          show Ar.val ((2 : Int) ^ w) lx % Ar.topD ly + _ * 0 = _
          rw [Rx.vl, ← t1]
          omega
        rw [ev, e2] at C
        exact q H2 z (g1.same (sp.trans s2)) (M1.same (sp.trans s2)) C
      · have h1 : ¬ ((ly.map V.int).length : Int) = 1 := fun z => h1 (decide_eq_true (congrArg V.int z))
        rw [List.length_map] at h1
        refine ⟨_, rfl, _, rfl, x, _, dx, _, _, rfl, hx, T.clB, T.nB_side, bf_side, _, rfl, _, rfl, x, _, dx, _, _, rfl, hx, T.clB, T.nB_row, bf_row, _, rfl, y, _, dy, _, _, rfl, hy, T.clB, T.nB_row, bf_row, m, cA, eA, tx, ty, w, lx, ly, _, _, rfl, M, htx, hty, Rx, Ry, by omega, hle, by omega, fun H1 Tt p pr l lr g1 M1 hT hp hg hl hv hpr hgr hlr hvr => ?_⟩
        refine ⟨Tt, _, 1, .ref pr, rfl, rfl, SqT.of hT, atI_nat (j := 1) rfl, m, cA, eA, pr, w, a.sign, lr, rfl, M1, hpr, hgr, by omega, ?_, fun H2 z s2 C => ?_⟩
        · rcases hsg with z | z | z
          · exact .inl z
          · exact .inr (.inl z)
          · exact z.2.elim
        rw [hvr, e2] at C
        exact q H2 z (g1.same s2) (M1.same s2) C
theorem ok_modded (T : Tx K mg) : Fn P wd K mg base 6 "modded" pModded (spDiv1 K Int.fmod) := by
  have G_are_digits : Fn P wd K mg base 1 "are_digits" pAreDigits (spAreDigits K) := ok_are_digits T
  have G_count : Mt P wd K mg base 1 (cM K) "count" pMCount (spMCount K) := ok_count T
  have G_value_of : Fn P wd K mg base 1 "value_of" pValueOf (spValueOf K) := ok_value_of T
  have G_big_of : Fn P wd K mg base 4 "big_of" pBigOf (spBigOf K) := ok_big_of T
  have G_rest_of : Fn P wd K mg base 5 "rest_of" pRestOf (spDiv1 K Int.tmod) := ok_rest_of T
  have G_added : Fn P wd K mg base 5 "added" pAdded (spAdded K) := ok_added T
  refine T.d_modded.ok scModded (fun vs H Q E h => ?_) (fun f cdv A outer s0 H vs Q E hr h => ?_)
  · obtain ⟨m, cA, eA, x, y, w, a, b, rfl, _⟩ := h
    rfl
  · obtain ⟨m, cA, eA, x, y, w, a, b, rfl, M, B1, B2, sa, sb, hb0, q⟩ := h
    obtain ⟨dm, lim, h1⟩ := M.ob
    obtain ⟨t1, t2, t3, _⟩ := Ar.tmod_facts a hb0
    obtain ⟨f1, f2⟩ := Ar.floor_of_trunc a hb0
    have h8 := M.w8
    have h30 := M.w30
    have e30 := pw30 h30
    refine ⟨_, (pss_cons (ps_if (pt_val (pe_fn G_are_digits (hr.mono (by decide)) (pa_cons (pv 1) (pa_cons (pv 2) pa_nil)))) (pss_cons (ps_expr (pe_mt G_count (hr.mono (by decide)) (pv 0) (pa_cons pe_str (pa_cons pe_int pa_nil))))
        (pss_one (ps_ret (pe_fn G_big_of (hr.mono (by decide)) (pa_cons (pv 0) (pa_cons (pe_op op_modN (pe_fn G_value_of (hr.mono (by decide)) (pa_cons (pv 1) pa_nil)) (pe_fn G_value_of (hr.mono (by decide)) (pa_cons (pv 2) pa_nil))) pa_nil)))))) pss_nil)
        (pss_cons (ps_set (i := 3) scModded.nd rfl (.inl rfl) (pe_fn G_rest_of (hr.mono (by decide)) (pa_cons (pv 0) (pa_cons (pv 1) (pa_cons (pv 2) pa_nil)))))
        (pss_one (ps_ret (pe_ifExp (pt_cmpR op_lt (pe_op op_mul (pe_fld (pv 3) rfl) (pe_fld (pv 2) rfl)) pe_int (nomark _)) (pe_fn G_added (hr.mono (by decide)) (pa_cons (pv 0) (pa_cons (pv 3) (pa_cons (pv 2) pa_nil)))) (pv 3)))))), ?_⟩
    refine ⟨_, rfl, _, rfl, x, y, w, a, b, rfl, B1, B2, fun k hk => ⟨_, rfl, ite2 (fun hk1 => ?_) (fun hk1 => ?_)⟩⟩
    · obtain ⟨ka, kb⟩ := hk hk1
      obtain ⟨s1, s2⟩ := fsm h30 ka kb hb0
      refine ⟨_, rfl, m, dm, _, rfl, h1, mf_count, m, cA, eA, w, "short", 1, rfl, M, by decide +kernel, fun H1 g1 M1 => ?_⟩
      refine ⟨_, rfl, _, rfl, x, w, a, rfl, B1.go g1 M, h8, h30, sa, fun H2 s12 => ⟨_, rfl, y, w, b, rfl, (B2.go g1 M).same s12, h8, h30, sb, fun H3 s23 => ?_⟩⟩
      have s13 := s12.trans s23
      refine ⟨a, b, rfl, rfl, hb0, m, cA, eA, w, _, rfl, M1.same s13, s2, fun H4 z s34 C1 => ?_⟩
      exact q _ z (g1.same (s13.trans s34)) (M1.same (s13.trans s34)) C1
    · refine ⟨_, rfl, _, rfl, _, rfl, m, cA, eA, x, y, w, a, b, rfl, M, B1, B2, sa, sb, hb0, fun H1 r g1 M1 C2 => ?_⟩
      have B2' := B2.go g1 M
      obtain ⟨dy, ty, ly, hy, hty, Ry⟩ := B2'.ex
      obtain ⟨dr, tr, lr, hrr, htr, Rr⟩ := C2.ex
      refine ⟨_, rfl, r, _, dr, _, _, rfl, hrr, T.clB, T.nB_side, bf_side, _, rfl, y, _, dy, _, _, rfl, hy, T.clB, T.nB_side, bf_side, _, _, rfl, rfl, .inl (sg_bd _), _, _, rfl, rfl, _, rfl, ite2 (fun hz => ?_) (fun hz => ?_)⟩
      · have hz : (a.tmod b).sign * b.sign < 0 := of_decide_eq_true hz
        obtain ⟨e1, e2⟩ := f1 hz
        refine ⟨_, rfl, _, rfl, _, rfl, m, cA, eA, r, y, w, _, _, rfl, M1, C2, B2', sm_le t2 sa, sb, fun H2 z g2 M2 C3 => ?_⟩
        rw [← e2] at C3
        exact q H2 z (g1.trans g2) M2 C3
      · have hz : ¬ (a.tmod b).sign * b.sign < 0 := fun z => hz (decide_eq_true z)
        obtain ⟨e1, e2⟩ := f2 hz
        rw [← e2] at C2
        exact ⟨_, rfl, q H1 r g1 M1 C2⟩
/-! ### the doors -/
theorem ok_truncated (T : Tx K mg) : Fn P wd K mg base 6 "truncated" pTruncated (spDivs K Int.tdiv Int.tmod) := by
  have G_check_bigs : Fn P wd K mg base 2 "check_bigs" pCheckBigs (spCheckBigs K) := ok_check_bigs T
  have G_cut_off : Fn P wd K mg base 5 "cut_off" pCutOff (spDivs K Int.tdiv Int.tmod) := ok_cut_off T
  refine T.d_truncated.ok scTruncated (fun vs H Q E h => ?_) (fun f cdv A outer s0 H vs Q E hr h => ?_)
  · obtain ⟨m, cA, eA, x, y, w, a, b, rfl, _⟩ := h
    rfl
  · obtain ⟨m, cA, eA, x, y, w, a, b, rfl, M, B1, B2, sa, sb, hb0, q⟩ := h
    refine ⟨_, (pss_cons (ps_expr (pe_fn G_check_bigs (hr.mono (by decide)) (pa_cons (pv 0) (pa_cons (pv 1) (pa_cons (pv 2) pa_nil)))))
        (pss_one (ps_ret (pe_fn G_cut_off (hr.mono (by decide)) (pa_cons (pv 0) (pa_cons (pv 1) (pa_cons (pv 2) pa_nil))))))), ?_⟩
    refine ⟨_, rfl, _, rfl, _, rfl, m, cA, eA, x, y, w, a, b, rfl, M, B1, B2, ?_⟩
    exact ⟨_, rfl, _, rfl, _, rfl, m, cA, eA, x, y, w, a, b, rfl, M, B1, B2, sa, sb, hb0, q⟩
theorem ok_divide_both (T : Tx K mg) : Fn P wd K mg base 7 "divide_both" pDivideBoth (spDivs K Int.fdiv Int.fmod) := by
  have G_check_bigs : Fn P wd K mg base 2 "check_bigs" pCheckBigs (spCheckBigs K) := ok_check_bigs T
  have G_floored : Fn P wd K mg base 6 "floored" pFloored (spDivs K Int.fdiv Int.fmod) := ok_floored T
  refine T.d_divide_both.ok scDivideBoth (fun vs H Q E h => ?_) (fun f cdv A outer s0 H vs Q E hr h => ?_)
  · obtain ⟨m, cA, eA, x, y, w, a, b, rfl, _⟩ := h
    rfl
  · obtain ⟨m, cA, eA, x, y, w, a, b, rfl, M, B1, B2, sa, sb, hb0, q⟩ := h
    refine ⟨_, (pss_cons (ps_expr (pe_fn G_check_bigs (hr.mono (by decide)) (pa_cons (pv 0) (pa_cons (pv 1) (pa_cons (pv 2) pa_nil)))))
        (pss_one (ps_ret (pe_fn G_floored (hr.mono (by decide)) (pa_cons (pv 0) (pa_cons (pv 1) (pa_cons (pv 2) pa_nil))))))), ?_⟩
    refine ⟨_, rfl, _, rfl, _, rfl, m, cA, eA, x, y, w, a, b, rfl, M, B1, B2, ?_⟩
    exact ⟨_, rfl, _, rfl, _, rfl, m, cA, eA, x, y, w, a, b, rfl, M, B1, B2, sa, sb, hb0, q⟩
theorem ok_floor_divide (T : Tx K mg) : Fn P wd K mg base 8 "floor_divide" pFloorDivide (spDiv1 K Int.fdiv) := by
  have G_check_bigs : Fn P wd K mg base 2 "check_bigs" pCheckBigs (spCheckBigs K) := ok_check_bigs T
  have G_floor_of : Fn P wd K mg base 7 "floor_of" pFloorOf (spDiv1 K Int.fdiv) := ok_floor_of T
  refine T.d_floor_divide.ok scFloorDivide (fun vs H Q E h => ?_) (fun f cdv A outer s0 H vs Q E hr h => ?_)
  · obtain ⟨m, cA, eA, x, y, w, a, b, rfl, _⟩ := h
    rfl
  · obtain ⟨m, cA, eA, x, y, w, a, b, rfl, M, B1, B2, sa, sb, hb0, q⟩ := h
    refine ⟨_, (pss_cons (ps_expr (pe_fn G_check_bigs (hr.mono (by decide)) (pa_cons (pv 0) (pa_cons (pv 1) (pa_cons (pv 2) pa_nil)))))
        (pss_one (ps_ret (pe_fn G_floor_of (hr.mono (by decide)) (pa_cons (pv 0) (pa_cons (pv 1) (pa_cons (pv 2) pa_nil))))))), ?_⟩
    refine ⟨_, rfl, _, rfl, _, rfl, m, cA, eA, x, y, w, a, b, rfl, M, B1, B2, ?_⟩
    exact ⟨_, rfl, _, rfl, _, rfl, m, cA, eA, x, y, w, a, b, rfl, M, B1, B2, sa, sb, hb0, q⟩
theorem ok_modulo (T : Tx K mg) : Fn P wd K mg base 7 "modulo" pModulo (spDiv1 K Int.fmod) := by
  have G_check_bigs : Fn P wd K mg base 2 "check_bigs" pCheckBigs (spCheckBigs K) := ok_check_bigs T
  have G_modded : Fn P wd K mg base 6 "modded" pModded (spDiv1 K Int.fmod) := ok_modded T
  refine T.d_modulo.ok scModulo (fun vs H Q E h => ?_) (fun f cdv A outer s0 H vs Q E hr h => ?_)
  · obtain ⟨m, cA, eA, x, y, w, a, b, rfl, _⟩ := h
    rfl
  · obtain ⟨m, cA, eA, x, y, w, a, b, rfl, M, B1, B2, sa, sb, hb0, q⟩ := h
    refine ⟨_, (pss_cons (ps_expr (pe_fn G_check_bigs (hr.mono (by decide)) (pa_cons (pv 0) (pa_cons (pv 1) (pa_cons (pv 2) pa_nil)))))
        (pss_one (ps_ret (pe_fn G_modded (hr.mono (by decide)) (pa_cons (pv 0) (pa_cons (pv 1) (pa_cons (pv 2) pa_nil))))))), ?_⟩
    refine ⟨_, rfl, _, rfl, _, rfl, m, cA, eA, x, y, w, a, b, rfl, M, B1, B2, ?_⟩
    exact ⟨_, rfl, _, rfl, _, rfl, m, cA, eA, x, y, w, a, b, rfl, M, B1, B2, sa, sb, hb0, q⟩
/-! ### long_walk -/
def OkLong (w : Nat) (a b : Int) : Prop := ∀ la lb, Ar.Row ((2 : Int) ^ w) la (a.natAbs : Int) → Ar.Row ((2 : Int) ^ w) lb (b.natAbs : Int) → 2 ≤ lb.length ∧ Ar.belowB la lb = false
def spCheckLong (K : PySem.W.Frag) : Sp := fun vs H Q _ => ∃ (m cA eA x y : Addr) (w : Nat) (a b : Int), vs = [.ref m, .ref x, .ref y] ∧ Mach K H m cA eA w ∧ IsBig K H x w a ∧ IsBig K H y w b ∧ OkLong w a b ∧ Q .non H
theorem ok_check_long (T : Tx K mg) : Fn P wd K mg base 2 "check_long" pCheckLong (spCheckLong K) := by
  have G_check_machine : Fn P wd K mg base 1 "check_machine" pCheckMachine (spCheckMachine K) := ok_check_machine T
  have G_check_big : Fn P wd K mg base 1 "check_big" pCheckBig (spCheckBig K) := ok_check_big T
  have G_is_below : Fn P wd K mg base 1 "is_below" pIsBelow spIsBelow := ok_is_below T
  refine T.d_check_long.ok scCheckLong (fun vs H Q E h => ?_) (fun f cdv A outer s0 H vs Q E hr h => ?_)
  · obtain ⟨m, cA, eA, x, y, w, a, b, rfl, _⟩ := h
    rfl
  · obtain ⟨m, cA, eA, x, y, w, a, b, rfl, M, B1, B2, ok, q⟩ := h
    obtain ⟨dx, tx, lx, hx, htx, Rx⟩ := B1.ex
    obtain ⟨dy, ty, ly, hy, hty, Ry⟩ := B2.ex
    obtain ⟨o1, o2⟩ := ok lx ly Rx Ry
    refine ⟨_, (pss_cons (ps_expr (pe_fn G_check_machine (hr.mono (by decide)) (pa_cons (pv 0) pa_nil)))
        (pss_cons (ps_expr (pe_fn G_check_big (hr.mono (by decide)) (pa_cons (pv 0) (pa_cons pe_str (pa_cons (pv 1) pa_nil)))))
        (pss_cons (ps_expr (pe_fn G_check_big (hr.mono (by decide)) (pa_cons (pv 0) (pa_cons pe_str (pa_cons (pv 2) pa_nil)))))
        (pss_cons (ps_if (pt_cmpR op_lt (pe_callB call_len_seq (by rfl) T.z_len PySem.boot_len (pa_cons (pe_fld (pv 2) rfl) pa_nil)) pe_int (nomark _)) pss_never pss_nil)
        (pss_one (ps_if (pt_val (pe_fn G_is_below (hr.mono (by decide)) (pa_cons (pe_fld (pv 1) rfl) (pa_cons (pe_fld (pv 2) rfl) pa_nil)))) pss_never pss_nil)))))), ?_⟩
    refine ⟨_, rfl, m, cA, eA, w, rfl, M, ?_⟩
    refine ⟨_, rfl, _, rfl, m, cA, eA, x, w, _, a, rfl, M, B1, ?_⟩
    refine ⟨_, rfl, _, rfl, m, cA, eA, y, w, _, b, rfl, M, B2, ?_⟩
    refine ⟨_, rfl, y, _, dy, _, _, rfl, hy, T.clB, T.nB_row, bf_row, ty, _, rfl, .inr (SqT.of hty), _, _, rfl, rfl, _, rfl, ite2 (fun hz => ?_) (fun _ => ?_)⟩
    · have hz : ((ly.map V.int).length : Int) < 2 := of_decide_eq_true hz
      rw [List.length_map] at hz
      omega
    refine ⟨_, rfl, x, _, dx, _, _, rfl, hx, T.clB, T.nB_row, bf_row, _, rfl, y, _, dy, _, _, rfl, hy, T.clB, T.nB_row, bf_row, tx, ty, lx, ly, rfl, htx, hty, by omega, _, rfl, ?_⟩
    rw [o2]
    exact iteF q
def spLongWalk (K : PySem.W.Frag) : Sp := fun vs H Q _ => ∃ (m cA eA x y : Addr) (w : Nat) (a b : Int), vs = [.ref m, .ref x, .ref y] ∧ Mach K H m cA eA w ∧ IsBig K H x w a ∧ IsBig K H y w b ∧ Sm a ∧ Sm b ∧ OkLong w a b ∧
  ∀ H' ps (ts : List Addr) (st : List Ar.Stp), Go cA eA H H' → Mach K H' m cA eA w → H' ps = some (.lst (ts.map V.ref)) → ps ≠ eA → StpsAt H' ts st → st.length ≤ 1000 → (∀ lb, Ar.Row ((2 : Int) ^ w) lb (b.natAbs : Int) → Ar.Long w lb.length (a.natAbs : Int) (b.natAbs : Int) st) → Q (.ref ps) H'
theorem ok_long_walk (T : Tx K mg) : Fn P wd K mg base 4 "long_walk" pLongWalk (spLongWalk K) := by
  have G_check_long : Fn P wd K mg base 2 "check_long" pCheckLong (spCheckLong K) := ok_check_long T
  have G_long_steps : Fn P wd K mg base 3 "long_steps" pLongSteps (spLongSteps K) := ok_long_steps T
  refine T.d_long_walk.ok scLongWalk (fun vs H Q E h => ?_) (fun f cdv A outer s0 H vs Q E hr h => ?_)
  · obtain ⟨m, cA, eA, x, y, w, a, b, rfl, _⟩ := h
    rfl
  · obtain ⟨m, cA, eA, x, y, w, a, b, rfl, M, B1, B2, sa, sb, ok, q⟩ := h
    obtain ⟨dx, tx, lx, hx, htx, Rx⟩ := B1.ex
    obtain ⟨dy, ty, ly, hy, hty, Ry⟩ := B2.ex
    obtain ⟨o1, o2⟩ := ok lx ly Rx Ry
    have lenx := row_len M.w8 Rx sa.lt
    have hB2 := pw8 M.w8
    refine ⟨_, (pss_cons (ps_expr (pe_fn G_check_long (hr.mono (by decide)) (pa_cons (pv 0) (pa_cons (pv 1) (pa_cons (pv 2) pa_nil)))))
        (pss_one (ps_ret (pe_ix ix_tup (pe_fn G_long_steps (hr.mono (by decide)) (pa_cons (pv 0) (pa_cons (pe_fld (pv 1) rfl) (pa_cons (pe_fld (pv 2) rfl) pa_nil)))) pe_int (fun _ _ => rfl))))), ?_⟩
    refine ⟨_, rfl, _, rfl, _, rfl, m, cA, eA, x, y, w, a, b, rfl, M, B1, B2, ok, ?_⟩
    refine ⟨_, rfl, _, rfl, x, _, dx, _, _, rfl, hx, T.clB, T.nB_row, bf_row, _, rfl, y, _, dy, _, _, rfl, hy, T.clB, T.nB_row, bf_row, m, cA, eA, tx, ty, w, lx, ly, _, _, rfl, M, htx, hty, Rx, Ry, o1, Ar.not_below o2, by omega, fun H1 Tt ps pr ts st lr g1 M1 hT hps hpe hst hsl hL hpr hgr hlr hvr => ?_⟩
    refine ⟨Tt, _, 0, .ref ps, rfl, rfl, SqT.of hT, atI_nat (j := 0) rfl, ?_⟩
    refine q H1 ps ts st g1 M1 hps hpe hst hsl (fun lb R => ?_)
    rw [Ar.Row.uniq (by omega) R Ry]
    exact hL
end Tb
set_option Elab.async false
set_option linter.all false
set_option maxRecDepth 100000
set_option maxHeartbeats 4000000
/-! the law's own draws -/
namespace Tb
open PySem PySem.Spec PyProof.Rows L2
variable {P : Program} {wd : World} {K : PySem.W.Frag} {mg : Str → Option Value} {base : Heap}
/-- a source of draws -/
def Src (H : Hp) (p : Addr) : Prop := ∃ n m k : Int, H p = some (.lst [.int n, .int m, .int k])
theorem Src.same {H H' : Hp} {p : Addr} (h : Src H p) (s : Same H H') : Src H' p := by
  obtain ⟨n, m, k, e⟩ := h
  exact ⟨n, m, k, s _ _ e⟩
theorem Src.at {H : Hp} {p : Addr} (h : Src H p) : ∃ xs, H p = some (.lst xs) := by
  obtain ⟨n, m, k, e⟩ := h
  exact ⟨_, e⟩
theorem But.trans {r : Addr} {H H1 H2 : Hp} (a : But r H H1) (b : But r H1 H2) : But r H H2 := fun c o e h => b c o (a c o e h) h
theorem But.same {r : Addr} {H H1 H2 : Hp} (a : But r H H1) (s : Same H1 H2) : But r H H2 := fun c o e h => s c o (a c o e h)
theorem But.of {r : Addr} {H H1 : Hp} (s : Same H H1) : But r H H1 := fun c o e _ => s c o e
theorem But.free {r p : Addr} {H H1 : Hp} {xs : List V} (b : But r H H1) (hr : H1 r = some (.lst xs)) (hp : H1 p = none) : H p = none := by
  cases q : H p with
  | none => rfl
  | some o =>
    rw [b p o q (ne_of_none hr hp).symm] at hp
    cases hp
theorem b2i_bd (c : Bool) : -(2 ^ 64) < (if c = true then (1 : Int) else 0) ∧ (if c = true then (1 : Int) else 0) < 2 ^ 64 := by
  cases c <;> exact ⟨by decide, by decide⟩
def spLSource : Sp := fun vs H Q _ => ∃ c : Int, vs = [.int c] ∧ ∀ H' p, Same H H' → H p = none → Src H' p → Q (.ref p) H'
theorem ok_Lsource (T : Tx K mg) : Fn P wd K mg base 1 "_law_source" pLSource spLSource := by
  refine T.d_Lsource.ok scLSource (fun vs H Q E h => ?_) (fun f cdv A outer s0 H vs Q E hr h => ?_)
  · obtain ⟨c, rfl, _⟩ := h
    rfl
  · obtain ⟨c, rfl, q⟩ := h
    refine ⟨_, (pss_one (ps_ret (pe_lst (pa_cons (pe_op op_mul (pe_callB call_abs (by rfl) T.z_abs (by decide +kernel) (pa_cons (pv 0) pa_nil)) (pe_callTy call_int1 (by rfl) T.z_int (by decide +kernel) (pa_cons (pe_cmpR op_ge (pe_callB call_abs (by rfl) T.z_abs (by decide +kernel) (pa_cons (pv 0) pa_nil)) (pe_op op_pow pe_int pe_int) (nomark _)) pa_nil))) (pa_cons (pe_op op_mod (pe_callTy call_int1 (by rfl) T.z_int (by decide +kernel) (pa_cons (pv 0) pa_nil)) pe_int) (pa_cons pe_int pa_nil)))))), ?_⟩
    refine ⟨_, rfl, _, rfl, _, rfl, _, rfl, 10, 18, rfl, rfl, ⟨by decide, by decide, by decide⟩, _, _, rfl, rfl, .inr ⟨_, rfl, _, _, rfl, rfl, .inr (b2i_bd _), ?_⟩⟩
    refine ⟨_, rfl, .inl ⟨_, rfl, _, _, rfl, rfl, (show (0 : Int) < 2147483587 by decide), by show 3 ≤ sizeLine; decide, fun p np => ?_⟩⟩
    exact q _ p (Same.new np) np ⟨_, _, _, upd_same⟩
/-- d drawn below size -/
def spLDraw : Sp := fun vs H Q _ => ∃ (p : Addr) (size : Int), vs = [.ref p, .int size] ∧ Src H p ∧ 0 < size ∧ size < 2 ^ 40 ∧ ∀ H' (d : Nat), But p H H' → Src H' p → (d : Int) < size → Q (.int (d : Int)) H'
theorem ok_Ldraw (T : Tx K mg) : Fn P wd K mg base 1 "_law_draw" pLDraw spLDraw := by
  refine T.d_Ldraw.ok scLDraw (fun vs H Q E h => ?_) (fun f cdv A outer s0 H vs Q E hr h => ?_)
  · obtain ⟨p, size, rfl, _⟩ := h
    rfl
  · obtain ⟨p, size, rfl, ⟨n, m, k, hp⟩, h0, h1, q⟩ := h
    have fin : ∀ x : Int, ∃ d : Nat, x % size = (d : Int) ∧ (d : Int) < size := fun x => by
      have a := Int.emod_nonneg x (Int.ne_of_gt h0)
      have b := Int.emod_lt_of_pos x h0
      exact ⟨(x % size).toNat, by omega, by omega⟩
    refine ⟨_, (pss_cons (ps_if (pt_cmpR op_gt (pe_ix ix_list (pv 0) pe_int (fun _ _ => rfl)) pe_int (nomark _)) (pss_cons (ps_set (i := 2) scLDraw.nd rfl (.inl rfl) (pe_op op_mod (pe_callTy call_int1 (by rfl) T.z_int (by decide +kernel) (pa_cons (pe_ix ix_list (pv 0) pe_int (fun _ _ => rfl)) pa_nil)) (pv 1)))
        (pss_cons (ps_asg (pe_op op_fdivW (pe_ix ix_list (pv 0) pe_int (fun _ _ => rfl)) (pv 1)) (pg_sub (pv 0) pe_int set_list))
        (pss_one (ps_ret (pv 2))))) pss_nil)
        (pss_cons (ps_asg (pe_op op_add (pe_ix ix_list (pv 0) pe_int (fun _ _ => rfl)) pe_int) (pg_sub (pv 0) pe_int set_list))
        (pss_cons (ps_set (i := 3) scLDraw.nd rfl (.inl rfl) (pe_op op_mod (pe_callTy call_int1 (by rfl) T.z_int (by decide +kernel) (pa_cons (pe_op op_mul (pe_op op_add (pe_op op_add (pe_ix ix_list (pv 0) pe_int (fun _ _ => rfl)) (pe_op op_mul pe_int (pe_ix ix_list (pv 0) pe_int (fun _ _ => rfl)))) pe_int) pe_int) pa_nil)) pe_int))
        (pss_cons (ps_set (i := 3) scLDraw.nd rfl (.inl rfl) (pe_op op_mod (pe_callTy call_int1 (by rfl) T.z_int (by decide +kernel) (pa_cons (pe_op op_mul (pv 3) (pe_op op_add (pe_op op_add (pe_op op_fdiv (pv 3) pe_int) pe_int) (pe_ix ix_list (pv 0) pe_int (fun _ _ => rfl)))) pa_nil)) pe_int))
        (pss_one (ps_ret (pe_op op_mod (pe_callTy call_int1 (by rfl) T.z_int (by decide +kernel) (pa_cons (pe_op op_fdiv (pe_op op_mod (pe_callTy call_int1 (by rfl) T.z_int (by decide +kernel) (pa_cons (pe_op op_mul (pv 3) (pe_op op_add (pe_op op_fdiv (pv 3) pe_int) pe_int)) pa_nil)) pe_int) pe_int) pa_nil)) (pv 1)))))))), ?_⟩
    refine ⟨_, rfl, p, _, 0, .int n, rfl, rfl, SqL.of hp, atI_nat (j := 0) rfl, _, _, rfl, rfl, _, rfl, ite2 (fun hn => ?_) (fun hn => ?_)⟩
    · refine ⟨_, rfl, p, _, 0, .int n, rfl, rfl, SqL.of hp, atI_nat (j := 0) rfl, .inl ⟨n, rfl, _, rfl, _, _, rfl, rfl, h0, ?_⟩⟩
      refine ⟨_, rfl, p, _, 0, .int n, rfl, rfl, SqL.of hp, atI_nat (j := 0) rfl, _, rfl, _, _, rfl, rfl, wide_div (b := 40) h0 (abs_lt' (by omega)) (by decide) (by decide), _, rfl, p, _, 0, 0, rfl, rfl, hp, ixN_nat (j := 0) rfl (by show 0 < 3; decide), ?_⟩
      obtain ⟨d, e, hd⟩ := fin n
      refine ⟨_, rfl, ?_⟩
      show Q (.int (n % size)) _
      rw [e]
      exact q _ d (But.refl.wr) ⟨_, _, _, upd_same⟩ hd
    · refine ⟨_, rfl, p, _, 2, .int k, rfl, rfl, SqL.of hp, atI_nat (j := 2) rfl, _, _, rfl, rfl, _, rfl, p, _, 2, 2, rfl, rfl, hp, ixN_nat (j := 2) rfl (by show 2 < 3; decide), ?_⟩
      have b1 : But p H (upd H p (.lst [.int n, .int m, .int (k + 1)])) := But.refl.wr
      have hp1 : (upd H p (.lst [.int n, .int m, .int (k + 1)])) p = some (.lst [.int n, .int m, .int (k + 1)]) := upd_same
      generalize hH1 : upd H p (.lst [.int n, .int m, .int (k + 1)]) = H1 at b1 hp1
      have hH1' : upd H p (HO.lst ([V.int n, V.int m, V.int k].set 2 (V.int (k + 1)))) = H1 := hH1
      rw [hH1']
      refine ⟨_, rfl, p, _, 1, .int m, rfl, rfl, SqL.of hp1, atI_nat (j := 1) rfl, _, rfl, p, _, 2, .int (k + 1), rfl, rfl, SqL.of hp1, atI_nat (j := 2) rfl, _, _, rfl, rfl, .inl ⟨by decide, by decide⟩, _, _, rfl, rfl, _, _, rfl, rfl, _, _, rfl, rfl, .inr ⟨by decide, by decide⟩, .inl ⟨_, rfl, _, _, rfl, rfl, (show (0 : Int) < 2147483629 by decide), ?_⟩⟩
      have r1 := Int.emod_nonneg ((m + 52711 * (k + 1) + 13) * 48271) (show (2147483629 : Int) ≠ 0 by decide)
      have r2 := Int.emod_lt_of_pos ((m + 52711 * (k + 1) + 13) * 48271) (show (0 : Int) < 2147483629 by decide)
      dsimp only
      generalize (m + 52711 * (k + 1) + 13) * 48271 % 2147483629 = x at r1 r2
      refine ⟨_, rfl, _, rfl, _, _, rfl, rfl, ⟨by decide, by decide⟩, _, _, rfl, rfl, _, rfl, p, _, 2, .int (k + 1), rfl, rfl, SqL.of hp1, atI_nat (j := 2) rfl, _, _, rfl, rfl, _, _, rfl, rfl, .inl ⟨by omega, by omega⟩, .inl ⟨_, rfl, _, _, rfl, rfl, (show (0 : Int) < 2147483579 by decide), ?_⟩⟩
      dsimp only
      have r3 := Int.emod_nonneg (x * (x / 1021 + 69621 + (k + 1))) (show (2147483579 : Int) ≠ 0 by decide)
      have r4 := Int.emod_lt_of_pos (x * (x / 1021 + 69621 + (k + 1))) (show (0 : Int) < 2147483579 by decide)
      generalize x * (x / 1021 + 69621 + (k + 1)) % 2147483579 = y at r3 r4
      refine ⟨_, rfl, _, rfl, _, _, rfl, rfl, ⟨by decide, by decide⟩, _, _, rfl, rfl, _, _, rfl, rfl, .inl ⟨by omega, by omega⟩, .inl ⟨_, rfl, _, _, rfl, rfl, (show (0 : Int) < 2147483549 by decide), _, _, rfl, rfl, ⟨by decide, by decide⟩, .inl ⟨_, rfl, _, rfl, _, _, rfl, rfl, h0, ?_⟩⟩⟩
      dsimp only
      obtain ⟨d, e, hd⟩ := fin (y * (y / 2011 + 40692) % 2147483549 / 3)
      rw [e]
      exact q _ d b1 ⟨_, _, _, hp1⟩ hd
/-- one of some ints -/
def spLPick : Sp := fun vs H Q _ => ∃ (p l : Addr) (ns : List Int), vs = [.ref p, .ref l] ∧ Src H p ∧ H l = some (.lst (ns.map V.int)) ∧ l ≠ p ∧ 0 < ns.length ∧ ns.length < 1000 ∧ ∀ H' x, But p H H' → Src H' p → x ∈ ns → Q (.int x) H'
theorem ok_Lpick (T : Tx K mg) : Fn P wd K mg base 2 "_law_pick" pLPick spLPick := by
  have G_Ldraw : Fn P wd K mg base 1 "_law_draw" pLDraw spLDraw := ok_Ldraw T
  refine T.d_Lpick.ok scLPick (fun vs H Q E h => ?_) (fun f cdv A outer s0 H vs Q E hr h => ?_)
  · obtain ⟨p, l, ns, rfl, _⟩ := h
    rfl
  · obtain ⟨p, l, ns, rfl, hs, hl, hlp, hn0, hn1, q⟩ := h
    refine ⟨_, (pss_one (ps_ret (pe_ix ix_list (pv 1) (pe_fn G_Ldraw (hr.mono (by decide)) (pa_cons (pv 0) (pa_cons (pe_callB call_len_seq (by rfl) T.z_len PySem.boot_len (pa_cons (pv 1) pa_nil)) pa_nil))) (fun _ _ => rfl)))), ?_⟩
    have e40 : (2 : Int) ^ 40 = 1099511627776 := by decide
    refine ⟨_, rfl, _, rfl, _, rfl, l, _, rfl, .inl (SqL.of hl), p, _, rfl, hs, by rw [List.length_map]; omega, by rw [List.length_map]; omega, fun H1 d b1 s1 hd => ?_⟩
    rw [List.length_map] at hd
    have hd2 : d < ns.length := by omega
    have g := List.getElem?_eq_getElem hd2
    exact ⟨l, _, _, .int ns[d], rfl, rfl, SqL.of (b1 _ _ hl hlp), atI_nat (mapint_get g), q H1 _ b1 s1 (List.getElem_mem hd2)⟩
/-- the digits of a number -/
def spLRow : Sp := fun vs H Q _ => ∃ (n : Int) (w : Nat), vs = [.int n, .int (w : Int)] ∧ 0 ≤ n ∧ Sm n ∧ 8 ≤ w ∧ w ≤ 30 ∧ ∀ H' p l, Same H H' → H p = none → H' p = some (.lst (l.map V.int)) → Ar.Row ((2 : Int) ^ w) l n → Q (.ref p) H'
theorem ok_Lrow (T : Tx K mg) : Fn P wd K mg base 1 "_law_row" pLRow spLRow := by
  refine T.d_Lrow.ok scLRow (fun vs H Q E h => ?_) (fun f cdv A outer s0 H vs Q E hr h => ?_)
  · obtain ⟨n, w, rfl, _⟩ := h
    rfl
  · obtain ⟨n, w, rfl, hn, hs, h8, h30, q⟩ := h
    have hB := pwp w
    have hB2 := pw8 h8
    refine ⟨_, (pss_cons (ps_set (i := 2) scLRow.nd rfl (.inl rfl) (pe_lst pa_nil))
        (pss_cons (ps_while PassesOwn.never (pt_cmpR op_gt (pv 0) pe_int (nomark _)) (pss_cons (ps_expr (pe_bm PySem.F.plainAttrs_list PySem.F.slot_list_append PySem.F.type_list_append mt_append (pv 2) (pa_cons (pe_op op_andM (pv 0) (pe_op op_sub (pe_op op_oneShl pe_int (pv 1)) pe_int)) pa_nil)))
        (pss_one (ps_set (i := 0) scLRow.nd rfl (.inl rfl) (pe_op op_shrN (pv 0) (pv 1))))))
        (pss_one (ps_ret (pv 2))))), ?_⟩
    refine ⟨Nat.zero_le _, fun p np => ?_⟩
    refine ⟨fun k σ H' => ∃ (c : Int) (l : List Int), k = c.toNat ∧ σ = [some (.int c), some (.int (w : Int)), some (.ref p)] ∧ Same H H' ∧ H' p = some (.lst (l.map V.int)) ∧ 0 ≤ c ∧ Ar.Dg ((2 : Int) ^ w) l ∧ Ar.val ((2 : Int) ^ w) l + ((2 : Int) ^ w) ^ l.length * c = n ∧ (c = 0 → ∀ d, l[l.length - 1]? = some d → d ≠ 0),
      ⟨n.toNat, n, [], rfl, rfl, Same.new np, upd_same, hn, Ar.Dg.nil, by simp [Ar.val], fun _ d e => by simp at e⟩, ?_⟩
    rintro k σ H' ⟨c, l, rfl, rfl, s1, hp, hc, hg, hv, ht⟩
    refine ⟨_, rfl, _, _, rfl, rfl, _, rfl, ite2 (fun h0 => ?_) (fun h0 => ?_)⟩
    · have h0 : 0 < c := of_decide_eq_true h0
      have hcd : c / 2 ^ w < c := Int.ediv_lt_of_lt_mul hB (by
        have := Int.mul_le_mul_of_nonneg_left hB2 hc
        omega)
      have hc1 : 0 ≤ c / 2 ^ w := Int.ediv_nonneg hc (Int.le_of_lt hB)
      refine ⟨fun σ2 H2 => ∃ l2 : List Int, σ2 = [some (.int (c / 2 ^ w)), some (.int (w : Int)), some (.ref p)] ∧ Same H H2 ∧ H2 p = some (.lst (l2.map V.int)) ∧ Ar.Dg ((2 : Int) ^ w) l2 ∧ Ar.val ((2 : Int) ^ w) l2 + ((2 : Int) ^ w) ^ l2.length * (c / 2 ^ w) = n ∧ (c / 2 ^ w = 0 → ∀ d, l2[l2.length - 1]? = some d → d ≠ 0), fun σ2 H2 h => ?_, ?_⟩
      · obtain ⟨l2, e, z1, z2, z3, z4, z5⟩ := h
        exact ⟨_, by omega, _, l2, rfl, e, z1, z2, hc1, z3, z4, z5⟩
      · have hlen : l.length ≤ 1000 := by
          have v0 := Ar.val_nn hB hg
          have p0 := Ar.pw_pos hB l.length
          have a1 : ((2 : Int) ^ w) ^ l.length * 1 ≤ ((2 : Int) ^ w) ^ l.length * c := Int.mul_le_mul_of_nonneg_left h0 (Int.le_of_lt p0)
          have a2 : ((2 : Int) ^ w) ^ l.length < 2 ^ 4000 := by
            have := hs.lt
            omega
          rw [pw_pw] at a2
          have a3 := pw_lt_inv a2
          have a4 : 8 * l.length ≤ w * l.length := Nat.mul_le_mul_right _ h8
          omega
        refine ⟨_, rfl, .inl ⟨rfl, _, SqL.of hp⟩, _, rfl, _, rfl, w, rfl, rfl, by omega, _, _, rfl, rfl, c, w, rfl, rfl, p, _, _, rfl, rfl, hp, by rw [List.length_map]; exact szlt (by omega), ?_⟩
        have s2 : Same H (upd H' p (.lst (l.map V.int ++ [.int (c % 2 ^ w)]))) := Same.mut s1 np
        refine ⟨_, rfl, _, rfl, _, w, rfl, rfl, ?_⟩
        have m0 := Int.emod_nonneg c (Int.ne_of_gt hB)
        have m1 := Int.emod_lt_of_pos c hB
        have em := Int.emod_add_mul_ediv c (2 ^ w)
        refine ⟨l ++ [c % 2 ^ w], rfl, s2, by rw [upd_same, List.map_append]; rfl, hg.snoc ⟨m0, m1⟩, ?_, fun hz d e => ?_⟩
        · have t := Ar.put_turn (B := (2 : Int) ^ w) (l := l) (r := c) c hv
          rw [Int.sub_self, Int.mul_zero, Int.add_zero] at t
          exact t
        · rw [List.length_append, List.getElem?_append_right (by simp)] at e
          have e2 : ([c % 2 ^ w] : List Int)[l.length + [c % 2 ^ w].length - 1 - l.length]? = some d := e
          rw [show l.length + [c % 2 ^ w].length - 1 - l.length = 0 by simp] at e2
          have e3 : c % 2 ^ w = d := Option.some.inj e2
          rw [hz, Int.mul_zero, Int.add_zero] at em
          omega
    · have h0 : ¬ (0 : Int) < c := fun z => h0 (decide_eq_true z)
      have hc0 : c = 0 := by omega
      subst hc0
      rw [Int.mul_zero, Int.add_zero] at hv
      exact ⟨_, rfl, q H' p l s1 np hp ⟨hg, hv, ht rfl⟩⟩
/-- a number with a drawn sign -/
def spLSigned : Sp := fun vs H Q _ => ∃ (p : Addr) (n : Int), vs = [.ref p, .int n] ∧ Src H p ∧ ∀ H' k, But p H H' → Src H' p → (k = n ∨ k = -n) → Q (.int k) H'
theorem ok_Lsigned (T : Tx K mg) : Fn P wd K mg base 2 "_law_signed" pLSigned spLSigned := by
  have G_Ldraw : Fn P wd K mg base 1 "_law_draw" pLDraw spLDraw := ok_Ldraw T
  refine T.d_Lsigned.ok scLSigned (fun vs H Q E h => ?_) (fun f cdv A outer s0 H vs Q E hr h => ?_)
  · obtain ⟨p, n, rfl, _⟩ := h
    rfl
  · obtain ⟨p, n, rfl, hs, q⟩ := h
    refine ⟨_, (pss_one (ps_ret (pe_op op_mul (pv 1) (pe_ix ix_list (pe_lst (pa_cons pe_int (pa_cons pe_int (pa_cons (pe_un un_neg pe_int) pa_nil)))) (pe_fn G_Ldraw (hr.mono (by decide)) (pa_cons (pv 0) (pa_cons pe_int pa_nil))) (fun _ _ => rfl))))), ?_⟩
    obtain ⟨ys, hp⟩ := hs.at
    refine ⟨_, rfl, _, rfl, by show 3 ≤ sizeLine; decide, fun l nl => ?_⟩
    have sl : Same H (upd H l (.lst [.int 1, .int 1, .int (-1)])) := Same.new nl
    have hlp : l ≠ p := (ne_of_none hp nl).symm
    refine ⟨_, rfl, p, 3, rfl, hs.same sl, by decide, by decide, fun H1 d b1 s1 hd => ?_⟩
    have hl1 := b1 _ _ (show (upd H l (.lst [.int 1, .int 1, .int (-1)])) l = some (.lst (([1, 1, -1] : List Int).map V.int)) from upd_same) hlp
    have hd2 : d < ([1, 1, -1] : List Int).length := by show d < 3; omega
    have g := List.getElem?_eq_getElem hd2
    have hx := List.getElem_mem hd2
    generalize ([1, 1, -1] : List Int)[d] = x at g hx
    have hx2 : x = 1 ∨ x = -1 := by
      simp at hx
      exact hx
    refine ⟨l, _, _, .int x, rfl, rfl, SqL.of hl1, atI_nat (mapint_get g), _, _, rfl, rfl, .inr (by rcases hx2 with rfl | rfl <;> exact ⟨by decide, by decide⟩), ?_⟩
    refine q H1 _ ((But.of sl).trans b1) s1 ?_
    rcases hx2 with rfl | rfl
    · exact .inl (Int.mul_one n)
    · exact .inr (by rw [Int.mul_neg, Int.mul_one])
/-- the first door, asked of numbers -/
def spLIsBelow : Sp := fun vs H Q _ => ∃ (x y : Int) (w : Nat), vs = [.int x, .int y, .int (w : Int)] ∧ 0 ≤ x ∧ 0 < y ∧ Sm x ∧ Sm y ∧ 8 ≤ w ∧ w ≤ 30 ∧ ∀ H' la lb, Same H H' → Ar.Row ((2 : Int) ^ w) la x → Ar.Row ((2 : Int) ^ w) lb y → Q (.bl (Ar.belowB la lb)) H'
theorem ok_Lis_below (T : Tx K mg) : Fn P wd K mg base 2 "_law_is_below" pLIsBelow spLIsBelow := by
  have G_Lrow : Fn P wd K mg base 1 "_law_row" pLRow spLRow := ok_Lrow T
  refine T.d_Lis_below.ok scLIsBelow (fun vs H Q E h => ?_) (fun f cdv A outer s0 H vs Q E hr h => ?_)
  · obtain ⟨x, y, w, rfl, _⟩ := h
    rfl
  · obtain ⟨x, y, w, rfl, hx, hy, sx, sy, h8, h30, q⟩ := h
    refine ⟨_, (pss_cons (ps_par (i := 3) (j := 4) (by rfl) scLIsBelow.nd rfl rfl (by decide) rfl rfl (pa_cons (pe_fn G_Lrow (hr.mono (by decide)) (pa_cons (pv 0) (pa_cons (pv 2) pa_nil))) (pa_cons (pe_fn G_Lrow (hr.mono (by decide)) (pa_cons (pv 1) (pa_cons (pv 2) pa_nil))) pa_nil)) (by rfl))
        (pss_one (ps_ret (pe_or (pe_cmpR op_lt (pe_callB call_len_seq (by rfl) T.z_len PySem.boot_len (pa_cons (pv 3) pa_nil)) (pe_callB call_len_seq (by rfl) T.z_len PySem.boot_len (pa_cons (pv 4) pa_nil)) (nomark _)) (pe_one (pe_and (pe_cmpR op_eq (pe_callB call_len_seq (by rfl) T.z_len PySem.boot_len (pa_cons (pv 3) pa_nil)) (pe_callB call_len_seq (by rfl) T.z_len PySem.boot_len (pa_cons (pv 4) pa_nil)) (nomark _)) (pe_one (pe_cmpR op_lt (pe_ix ix_list (pv 3) (pe_un un_neg pe_int) (fun _ _ => rfl)) (pe_ix ix_list (pv 4) (pe_un un_neg pe_int) (fun _ _ => rfl)) (nomark _))))))))), ?_⟩
    refine ⟨_, rfl, _, rfl, x, w, rfl, hx, sx, h8, h30, fun H1 t a s1 nt ht Ra => ⟨_, rfl, _, rfl, y, w, rfl, by omega, sy, h8, h30, fun H2 u b s2 nu hu Rb => ⟨_, _, rfl, ?_⟩⟩⟩
    have ht := s2 _ _ ht
    have hb := Rb.pos (pwp w) (by omega)
    have q := q H2 a b (s1.trans s2) Ra Rb
    have el : decide (((a.map V.int).length : Int) < ((b.map V.int).length : Int)) = decide (a.length < b.length) := by
      rw [List.length_map, List.length_map]
      exact decide_eq_decide.mpr (by omega)
    have ee : decide (V.int ((a.map V.int).length : Int) = V.int ((b.map V.int).length : Int)) = decide (a.length = b.length) := by
      rw [List.length_map, List.length_map]
      exact decide_eq_decide.mpr ⟨fun z => by have := V.int.inj z; omega, fun z => by rw [z]⟩
    refine ⟨_, rfl, t, _, rfl, .inl (SqL.of ht), _, rfl, u, _, rfl, .inl (SqL.of hu), _, _, rfl, rfl, _, rfl, ?_⟩
    unfold Ar.belowB at q
    rw [el]
    cases c1 : decide (a.length < b.length) with
    | true =>
      rw [c1] at q
      exact q
    | false =>
      rw [c1, Bool.false_or] at q
      refine ⟨_, rfl, t, _, rfl, .inl (SqL.of ht), _, rfl, u, _, rfl, .inl (SqL.of hu), rfl, _, rfl, ?_⟩
      rw [ee]
      cases c2 : decide (a.length = b.length) with
      | false =>
        rw [c2, Bool.false_and] at q
        exact q
      | true =>
        rw [c2, Bool.true_and] at q
        have c2 := of_decide_eq_true c2
        have ta := Ar.top_some (l := a) (by omega)
        have tb := Ar.top_some hb
        refine ⟨_, rfl, 1, rfl, t, _, _, .int (Ar.topD a), rfl, rfl, SqL.of ht, at_end (k := 1) (by decide) (by rw [List.length_map]; omega) (by rw [List.length_map]; exact mapint_get ta), _, rfl, 1, rfl, u, _, _, .int (Ar.topD b), rfl, rfl, SqL.of hu, at_end (k := 1) (by decide) (by rw [List.length_map]; omega) (by rw [List.length_map]; exact mapint_get tb), _, _, rfl, rfl, ?_⟩
        exact q
/-- the values of two numbers -/
def spLValues (K : PySem.W.Frag) : Sp := fun vs H Q _ => ∃ (t x y : Addr) (w : Nat) (a b : Int), vs = [.ref t] ∧ H t = some (.tup [.ref x, .ref y]) ∧ IsBig K H x w a ∧ IsBig K H y w b ∧ 8 ≤ w ∧ w ≤ 30 ∧ Sm a ∧ Sm b ∧ ∀ H' p, Same H H' → H' p = some (.tup [.int a, .int b]) → Q (.ref p) H'
theorem ok_Lvalues (T : Tx K mg) : Fn P wd K mg base 3 "_law_values" pLValues (spLValues K) := by
  have G_plain : Fn P wd K mg base 2 "plain" pPlain (spValueOf K) := ok_plain T
  refine T.d_Lvalues.ok scLValues (fun vs H Q E h => ?_) (fun f cdv A outer s0 H vs Q E hr h => ?_)
  · obtain ⟨t, x, y, w, a, b, rfl, _⟩ := h
    rfl
  · obtain ⟨t, x, y, w, a, b, rfl, ht, B1, B2, h8, h30, sa, sb, q⟩ := h
    refine ⟨_, (pss_one (ps_ret (pe_tup (pa_cons (pe_fn G_plain (hr.mono (by decide)) (pa_cons (pe_ix ix_tup (pv 0) pe_int (fun _ _ => rfl)) pa_nil)) (pa_cons (pe_fn G_plain (hr.mono (by decide)) (pa_cons (pe_ix ix_tup (pv 0) pe_int (fun _ _ => rfl)) pa_nil)) pa_nil))))), ?_⟩
    refine ⟨_, rfl, t, _, 0, .ref x, rfl, rfl, SqT.of ht, atI_nat (j := 0) rfl, x, w, a, rfl, B1, h8, h30, sa, fun H1 s1 => ?_⟩
    refine ⟨_, rfl, t, _, 1, .ref y, rfl, rfl, SqT.of (s1 _ _ ht), atI_nat (j := 1) rfl, y, w, b, rfl, B2.same s1, h8, h30, sb, fun H2 s2 => ⟨by show 2 ≤ sizeLine; decide, fun p np => ?_⟩⟩
    exact q _ p ((s1.trans s2).trans (Same.new np)) upd_same
end Tb
set_option Elab.async false
set_option linter.all false
set_option maxRecDepth 100000
set_option maxHeartbeats 4000000
/-! the law's own draws: a number -/
namespace Tb
open PySem PySem.Spec PyProof.Rows L2
variable {P : Program} {wd : World} {K : PySem.W.Frag} {mg : Str → Option Value} {base : Heap}
def lawEnds (w : Nat) : List Int := [0, 1, 2 ^ w - 1, 2 ^ (w - 1), 2 ^ (w - 1) - 1, 2 ^ w - 2]
/-- a number of at most most digits, or one beside a power -/
def spLNumber : Sp := fun vs H Q _ => ∃ (p : Addr) (w most : Nat), vs = [.ref p, .int (w : Int), .int (most : Int)] ∧ Src H p ∧ 8 ≤ w ∧ w ≤ 30 ∧ most ≤ 9 ∧ ∀ H' n, But p H H' → Src H' p → 0 ≤ n → n < 2 ^ (w * most + 3) → Q (.int n) H'
theorem ok_Lnumber (T : Tx K mg) : Fn P wd K mg base 3 "_law_number" pLNumber spLNumber := by
  have G_Ldraw : Fn P wd K mg base 1 "_law_draw" pLDraw spLDraw := ok_Ldraw T
  have G_Lpick : Fn P wd K mg base 2 "_law_pick" pLPick spLPick := ok_Lpick T
  refine T.d_Lnumber.ok scLNumber (fun vs H Q E h => ?_) (fun f cdv A outer s0 H vs Q E hr h => ?_)
  · obtain ⟨p, w, most, rfl, _⟩ := h
    rfl
  · obtain ⟨p, w, most, rfl, hs, h8, h30, hm, q⟩ := h
    have hB := pwp w
    have hB2 := pw8 h8
    have hB3 : (2 : Int) ^ w ≤ 2 ^ 30 := pw_mono h30
    have e40 : (2 : Int) ^ 40 = 1099511627776 := by decide
    have e30 : (2 : Int) ^ 30 = 1073741824 := by decide
    refine ⟨_, (pss_cons (ps_par3 (i := 3) (j := 4) (l := 5) (by rfl) scLNumber.nd rfl rfl rfl (by decide) (by decide) (by decide) rfl rfl rfl (pa_cons pe_int (pa_cons (pe_fn G_Ldraw (hr.mono (by decide)) (pa_cons (pv 0) (pa_cons (pe_op op_add (pv 2) pe_int) pa_nil))) (pa_cons (pe_fn G_Ldraw (hr.mono (by decide)) (pa_cons (pv 0) (pa_cons pe_int pa_nil))) pa_nil))) (by rfl))
        (pss_cons (ps_set (i := 6) scLNumber.nd rfl (.inl rfl) (pe_lst (pa_cons pe_int (pa_cons pe_int (pa_cons (pe_op op_sub (pe_op op_oneShl pe_int (pv 1)) pe_int) (pa_cons (pe_op op_oneShl pe_int (pe_op op_sub (pv 1) pe_int)) (pa_cons (pe_op op_sub (pe_op op_oneShl pe_int (pe_op op_sub (pv 1) pe_int)) pe_int) (pa_cons (pe_op op_sub (pe_op op_oneShl pe_int (pv 1)) pe_int) pa_nil))))))))
        (pss_cons (ps_for PassesOwn.never rfl (pi_range1 (by rfl) T.z_range (pa_cons (pv 4) pa_nil)) (pg_name (i := 7) scLNumber.nd rfl (.inl rfl)) (pss_cons (ps_set (i := 8) scLNumber.nd rfl (.inl rfl) (pe_fn G_Ldraw (hr.mono (by decide)) (pa_cons (pv 0) (pa_cons (pe_op op_oneShl pe_int (pv 1)) pa_nil))))
        (C8.pss_cut (ps_if (PW.pt (pw_or (pt_cmpR op_eq (pv 5) pe_int (nomark _)) (pw_or1 (PW.pt (pw_and (pt_cmpR op_eq (pv 5) pe_int (nomark _)) (pw_and1 (pt_cmpR op_eq (pe_fn G_Ldraw (hr.mono (by decide)) (pa_cons (pv 0) (pa_cons pe_int pa_nil))) pe_int (nomark _)))))))) (pss_one (ps_set (i := 8) scLNumber.nd rfl (.inl rfl) (pe_fn G_Lpick (hr.mono (by decide)) (pa_cons (pv 0) (pa_cons (pv 6) pa_nil))))) pss_nil)
        (pss_one (ps_set (i := 3) scLNumber.nd rfl (.inl rfl) (pe_op op_orL (pe_op op_shlN (pv 3) (pv 1)) (pv 8)))))))
        (C8.pss_cut (ps_if (pt_cmpR op_eq (pv 5) pe_int (nomark _)) (pss_one (ps_set (i := 3) scLNumber.nd rfl (.inl rfl) (pe_op op_sub (pe_op op_add (pe_op op_oneShl pe_int (pe_op op_mul (pv 1) (pv 4))) (pe_fn G_Ldraw (hr.mono (by decide)) (pa_cons (pv 0) (pa_cons pe_int pa_nil)))) pe_int))) pss_nil)
        (pss_one (ps_ret (pe_callB call_abs (by rfl) T.z_abs (by decide +kernel) (pa_cons (pv 3) pa_nil)))))))), ?_⟩
    refine ⟨_, rfl, _, rfl, _, _, rfl, rfl, p, (most : Int) + 1, rfl, hs, by omega, by omega, fun H1 size b1 s1 hsz => ?_⟩
    refine ⟨_, rfl, p, 4, rfl, s1, by decide, by decide, fun H2 way b2 s2 hway => ⟨_, _, _, rfl, ?_⟩⟩
    have b12 := b1.trans b2
    have hsz : size ≤ most := by omega
    refine ⟨_, rfl, w, rfl, rfl, by omega, _, _, rfl, rfl, ?_⟩
    refine ⟨_, rfl, _, _, rfl, rfl, w - 1, rfl, congrArg V.int (show (w : Int) - 1 = ((w - 1 : Nat) : Int) by omega), by omega, ?_⟩
    refine ⟨_, rfl, _, _, rfl, rfl, w - 1, rfl, congrArg V.int (show (w : Int) - 1 = ((w - 1 : Nat) : Int) by omega), by omega, _, _, rfl, rfl, ?_⟩
    refine ⟨_, rfl, w, rfl, rfl, by omega, _, _, rfl, rfl, by show 6 ≤ sizeLine; decide, fun l nl => ?_⟩
    have sl : Same H2 (upd H2 l (.lst ((lawEnds w).map V.int))) := Same.new nl
    have hl : (upd H2 l (.lst ((lawEnds w).map V.int))) l = some (.lst ((lawEnds w).map V.int)) := upd_same
    have hlp : l ≠ p := by
      obtain ⟨ys, e⟩ := s2.at
      exact (ne_of_none e nl).symm
    have s3 := s2.same sl
    have b3 := b12.trans (But.of (r := p) sl)
    have hdg : ∀ x ∈ lawEnds w, 0 ≤ x ∧ x < 2 ^ w := by
      have k1 : (2 : Int) ^ (w - 1) ≤ 2 ^ w - 1 := by
        have a : (2 : Int) ^ w = 2 ^ (w - 1) * 2 := by
          rw [show w = (w - 1) + 1 by omega, Int.pow_succ, Nat.add_sub_cancel]
        have := pwp (w - 1)
        omega
      have k2 := pwp (w - 1)
      intro x hx
      simp [lawEnds] at hx
      rcases hx with rfl | rfl | rfl | rfl | rfl | rfl <;> constructor <;> omega
    refine ⟨_, rfl, (size : Int), rfl, by omega, by omega, for_range (n := size) (fun i σ H' => ∃ (f : Int) (tv dg : Option V), σ = [some (.ref p), some (.int (w : Int)), some (.int (most : Int)), some (.int f), some (.int (size : Int)), some (.int (way : Int)), some (.ref l), tv, dg] ∧ But p H H' ∧ Src H' p ∧ H' l = some (.lst ((lawEnds w).map V.int)) ∧ 0 ≤ f ∧ f < 2 ^ (w * i)) ⟨0, none, none, rfl, b3, s3, hl, Int.le_refl _, pwp _⟩ ?_ ?_⟩
    · rintro i σ H' hi ⟨f, tv, dg, rfl, b, s, he, f0, f1⟩
      refine ⟨_, rfl, _, rfl, w, rfl, rfl, by omega, p, 2 ^ w, rfl, s, hB, by omega, fun H3 d b4 s4 hd => ?_⟩
      have he3 := b4 _ _ he hlp
      have b5 := b.trans b4
      refine ⟨fun σ' H' => ∃ dg : Int, σ' = [some (.ref p), some (.int (w : Int)), some (.int (most : Int)), some (.int f), some (.int (size : Int)), some (.int (way : Int)), some (.ref l), some (.int (0 + (i : Int))), some (.int dg)] ∧ But p H H' ∧ Src H' p ∧ H' l = some (.lst ((lawEnds w).map V.int)) ∧ 0 ≤ dg ∧ dg < 2 ^ w, ?_, ?_⟩
      · refine ⟨_, rfl, rfl, _, rfl, ite2 (fun hw1 => ?_) (fun hw1 => ?_)⟩
        · refine ite2 (fun _ => ?_) (fun z => absurd rfl z)
          refine ⟨_, rfl, _, rfl, p, l, lawEnds w, rfl, s4, he3, hlp, by show 0 < 6; decide, by show 6 < 1000; decide, fun H4 x b6 s6 hx => ?_⟩
          exact ⟨x, rfl, b5.trans b6, s6, b6 _ _ he3 hlp, hdg x hx⟩
        · refine ⟨_, rfl, rfl, _, rfl, ite2 (fun hw2 => ?_) (fun hw2 => ?_)⟩
          · refine ⟨_, rfl, p, 2, rfl, s4, by decide, by decide, fun H4 c b6 s6 hc => ?_⟩
            refine ⟨rfl, _, rfl, ite2 (fun h0 => ?_) (fun h0 => ?_)⟩
            · refine ⟨_, rfl, _, rfl, p, l, lawEnds w, rfl, s6, b6 _ _ he3 hlp, hlp, by show 0 < 6; decide, by show 6 < 1000; decide, fun H5 x b7 s7 hx => ?_⟩
              exact ⟨x, rfl, b5.trans (b6.trans b7), s7, b7 _ _ (b6 _ _ he3 hlp) hlp, hdg x hx⟩
            · exact ⟨d, rfl, b5.trans b6, s6, b6 _ _ he3 hlp, Int.natCast_nonneg d, hd⟩
          · refine ite2 (fun z => ?_) (fun _ => ?_)
            · cases z
            · exact ⟨d, rfl, b5, s4, he3, Int.natCast_nonneg d, hd⟩
      · rintro σ' H' ⟨dg, rfl, b6, s6, he6, d0, d1⟩
        refine ⟨_, rfl, _, rfl, f, w, rfl, rfl, shl_ok (n := w * 9) (abs_lt' ?_) ?_, _, rfl, f, dg, w, rfl, rfl, ⟨f0, d0, d1⟩, ?_⟩
        · rw [Int.natAbs_of_nonneg f0]
          exact Int.lt_of_lt_of_le f1 (pw_mono (Nat.mul_le_mul_left w (by omega)))
        · omega
        · refine ⟨f * 2 ^ w + dg, _, _, rfl, b6, s6, he6, by have := Int.mul_nonneg f0 (Int.le_of_lt hB); omega, ?_⟩
          rw [Nat.mul_add, Nat.mul_one, Int.pow_add]
          have a : (f + 1) * 2 ^ w ≤ 2 ^ (w * i) * 2 ^ w := Int.mul_le_mul_of_nonneg_right f1 (Int.le_of_lt hB)
          rw [Int.add_mul, Int.one_mul] at a
          omega
    · rintro σ H' ⟨f, tv, dg, rfl, b, s, he, f0, f1⟩
      have hsm : w * size ≤ w * most := Nat.mul_le_mul_left w hsz
      have p0 := pwp (w * size)
      have p1 : (2 : Int) ^ (w * size) ≤ 2 ^ (w * most) := pw_mono hsm
      have p2 : (2 : Int) ^ (w * most + 3) = 2 ^ (w * most) * 8 := by rw [Int.pow_add]; rfl
      refine ⟨fun σ' H' => ∃ f : Int, σ' = [some (.ref p), some (.int (w : Int)), some (.int (most : Int)), some (.int f), some (.int (size : Int)), some (.int (way : Int)), some (.ref l), tv, dg] ∧ But p H H' ∧ Src H' p ∧ (f.natAbs : Int) < 2 ^ (w * most + 3), ?_, ?_⟩
      · refine ⟨_, rfl, rfl, _, rfl, ite2 (fun h3 => ?_) (fun h3 => ?_)⟩
        · refine ⟨_, rfl, _, rfl, (w : Int), (size : Int), rfl, rfl, .inl ⟨by omega, by omega⟩, ?_⟩
          refine ⟨w * size, rfl, congrArg V.int (Int.natCast_mul w size).symm, ?_, ?_⟩
          · have : w * size ≤ 30 * 9 := Nat.mul_le_mul h30 (by omega)
            omega
          · refine ⟨_, rfl, p, 5, rfl, s, by decide, by decide, fun H3 d b4 s4 hd => ⟨_, _, rfl, rfl, _, _, rfl, rfl, ?_⟩⟩
            exact ⟨_, rfl, b.trans b4, s4, by omega⟩
        · exact ⟨f, rfl, b, s, by omega⟩
      · rintro σ' H' ⟨g, rfl, b, s, hg⟩
        refine ⟨_, rfl, g, rfl, ?_⟩
        rw [show (if g < 0 then -g else g) = (g.natAbs : Int) by split <;> omega]
        exact q H' _ b s (Int.natCast_nonneg _) hg
end Tb
set_option Elab.async false
set_option linter.all false
set_option maxRecDepth 100000
set_option maxHeartbeats 4000000
/-! the law's own draws: a machine, a pair -/
namespace Tb
open PySem PySem.Spec PyProof.Rows L2
variable {P : Program} {wd : World} {K : PySem.W.Frag} {mg : Str → Option Value} {base : Heap}
theorem mkd_M2 (T : Tx K mg) : Mkd P wd K mg base 3 (cM K) "Machine" pMInit [] (spMInit K) := by
  obtain ⟨f, fd, hk, hm, F, b0, _, _⟩ := T.i_Machine
  exact ⟨f, fd, [], hk, hm, b0, .nil, body_MInit T F⟩
theorem mkd_M1 (T : Tx K mg) : Mkd P wd K mg base 3 (cM K) "Machine" pMInit [.int 70] (spMInit K) := by
  obtain ⟨f, fd, hk, hm, F, _, ⟨ds, hv, hb⟩, _⟩ := T.i_Machine
  exact ⟨f, fd, ds, hk, hm, hb, hv, body_MInit T F⟩
theorem mkd_M0 (T : Tx K mg) : Mkd P wd K mg base 3 (cM K) "Machine" pMInit [.int 30, .int 70] (spMInit K) := by
  obtain ⟨f, fd, hk, hm, F, _, _, ⟨ds, hv, hb⟩⟩ := T.i_Machine
  exact ⟨f, fd, ds, hk, hm, hb, hv, body_MInit T F⟩
def lawWides (d : Nat) : List Int := [8, 8, 9, 15, 30, 8 + (d : Int)]
def spLBox (K : PySem.W.Frag) : Sp := fun vs H Q _ => ∃ p : Addr, vs = [.ref p] ∧ Src H p ∧ ∀ H' m cA eA w, But p H H' → Src H' p → Mach K H' m cA eA w → H m = none → H cA = none → H eA = none → Q (.ref m) H'
theorem ok_Lbox (T : Tx K mg) : Fn P wd K mg base 5 "_law_box" pLBox (spLBox K) := by
  have G_Ldraw : Fn P wd K mg base 1 "_law_draw" pLDraw spLDraw := ok_Ldraw T
  have G_Lpick : Fn P wd K mg base 2 "_law_pick" pLPick spLPick := ok_Lpick T
  have G_Machine : Mkd P wd K mg base 3 (cM K) "Machine" pMInit [] (spMInit K) := mkd_M2 T
  refine T.d_Lbox.ok scLBox (fun vs H Q E h => ?_) (fun f cdv A outer s0 H vs Q E hr h => ?_)
  · obtain ⟨p, rfl, _⟩ := h
    rfl
  · obtain ⟨p, rfl, hs, q⟩ := h
    refine ⟨_, (pss_one (ps_ret (pe_mk G_Machine (hr.mono (by decide)) (pa_cons (pe_fn G_Lpick (hr.mono (by decide)) (pa_cons (pv 0) (pa_cons (pe_lst (pa_cons pe_int (pa_cons pe_int (pa_cons pe_int (pa_cons pe_int (pa_cons pe_int (pa_cons (pe_op op_add pe_int (pe_fn G_Ldraw (hr.mono (by decide)) (pa_cons (pv 0) (pa_cons pe_int pa_nil)))) pa_nil))))))) pa_nil))) (pa_cons (pe_op op_add pe_int (pe_fn G_Ldraw (hr.mono (by decide)) (pa_cons (pv 0) (pa_cons pe_int pa_nil)))) pa_nil))))), ?_⟩
    refine ⟨_, rfl, _, rfl, p, 23, rfl, hs, by decide, by decide, fun H1 d b1 s1 hd => ⟨_, _, rfl, rfl, by show 6 ≤ sizeLine; decide, fun l nl => ?_⟩⟩
    have sl : Same H1 (upd H1 l (.lst ((lawWides d).map V.int))) := Same.new nl
    have hlp : l ≠ p := by
      obtain ⟨ys, e⟩ := s1.at
      exact (ne_of_none e nl).symm
    have b2 := b1.trans (But.of (r := p) sl)
    have s2 := s1.same sl
    refine ⟨p, l, lawWides d, rfl, s2, upd_same, hlp, by show 0 < 6; decide, by show 6 < 1000; decide, fun H2 x b3 s3 hx => ?_⟩
    have hx2 : ∃ w : Nat, x = (w : Int) ∧ 8 ≤ w ∧ w ≤ 30 := by
      simp [lawWides] at hx
      rcases hx with rfl | rfl | rfl | rfl | rfl
      · exact ⟨8, rfl, by omega, by omega⟩
      · exact ⟨9, rfl, by omega, by omega⟩
      · exact ⟨15, rfl, by omega, by omega⟩
      · exact ⟨30, rfl, by omega, by omega⟩
      · exact ⟨8 + d, by omega, by omega, by omega⟩
    obtain ⟨w, rfl, h8, h30⟩ := hx2
    refine ⟨_, rfl, p, 9, rfl, s3, by decide, by decide, fun H3 c b4 s4 hc => ⟨_, _, rfl, rfl, ?_⟩⟩
    have b5 := (b2.trans b3).trans b4
    obtain ⟨ys, hp⟩ := hs.at
    obtain ⟨ys3, hp3⟩ := s4.at
    refine fun x dx nx ndx nex => ⟨x, dx, w, 2 + (c : Int), rfl, upd_same, h8, h30, by omega, by omega, fun H4 cA eA kp M nc ne => ⟨rfl, ?_⟩⟩
    have s34 : Same H3 H4 := fun b o e => by
      refine kp b o ?_ (ne_of_none e nx)
      rw [upd_ne (ne_of_none e nx), upd_ne (ne_of_none e ndx)]
      exact e
    have back : ∀ b, (upd (upd H3 dx (.own x)) x (.ins (cM K) dx [])) b = none → H3 b = none := fun b e => by
      by_cases h1 : b = x
      · rw [h1]
        exact nx
      · rw [upd_ne h1] at e
        by_cases h2 : b = dx
        · rw [h2]
          exact ndx
        · rw [upd_ne h2] at e
          exact e
    exact q H4 x cA eA w (b5.trans (But.of s34)) (s4.same s34) M (b5.free hp3 nx) (b5.free hp3 (back _ nc)) (b5.free hp3 (back _ ne))
end Tb
set_option Elab.async false
set_option linter.all false
set_option maxRecDepth 100000
set_option maxHeartbeats 4000000
/-! the law's own draws: a pair -/
namespace Tb
open PySem PySem.Spec PyProof.Rows L2
variable {P : Program} {wd : World} {K : PySem.W.Frag} {mg : Str → Option Value} {base : Heap}
theorem pair_b1 {o n k : Int} (h0 : 0 ≤ o) (h1 : o ≤ 2 ^ 183) (h2 : 0 ≤ n) (h3 : n < 2 ^ 273) (h4 : 0 ≤ k) (h5 : k ≤ o) : ((o * n + k).natAbs : Int) < 2 ^ 460 := by
  have a := Int.mul_le_mul h1 (Int.le_of_lt h3) h2 (Int.le_of_lt (pwp 183))
  rw [← Int.pow_add] at a
  have b : (2 : Int) ^ 183 ≤ 2 ^ (183 + 273) := pw_mono (by omega)
  have c : (2 : Int) ^ (183 + 273 + 2) ≤ 2 ^ 460 := pw_mono (by omega)
  have d : (2 : Int) ^ (183 + 273 + 2) = 2 ^ (183 + 273) * 4 := Int.pow_add ..
  have e := Int.mul_nonneg h0 h2
  have p0 := pwp (183 + 273)
  generalize (2 : Int) ^ (183 + 273 + 2) = y at c d
  generalize (2 : Int) ^ (183 + 273) = x at a b d p0
  generalize (2 : Int) ^ 460 = z at c
  generalize (2 : Int) ^ 183 = v at h1 b
  generalize o * n = u at a e
  omega
theorem pair_b3 {o k : Int} {w d : Nat} (h0 : 0 ≤ o) (h1 : o ≤ 2 ^ 183) (hw : w ≤ 30) (hd : d < 4) (h4 : 0 ≤ k) (h5 : k ≤ 2) : ((o * 2 ^ (w * d) - k).natAbs : Int) < 2 ^ 460 := by
  have hwd : w * d ≤ 30 * 3 := Nat.mul_le_mul hw (by omega)
  have p0 : (2 : Int) ^ (w * d) ≤ 2 ^ 90 := pw_mono hwd
  have p1 := pwp (w * d)
  have a := Int.mul_le_mul h1 p0 (Int.le_of_lt p1) (Int.le_of_lt (pwp 183))
  have e := Int.mul_nonneg h0 (Int.le_of_lt p1)
  rw [← Int.pow_add] at a
  have c : (2 : Int) ^ (183 + 90 + 1) ≤ 2 ^ 460 := pw_mono (by omega)
  have d2 : (2 : Int) ^ (183 + 90 + 1) = 2 ^ (183 + 90) * 2 := Int.pow_succ ..
  have b : (2 : Int) ^ 8 ≤ 2 ^ (183 + 90) := pw_mono (by omega)
  have b8 : (2 : Int) ^ 8 = 256 := by decide
  generalize (2 : Int) ^ 8 = v at b b8
  generalize (2 : Int) ^ (183 + 90 + 1) = y at c d2
  generalize (2 : Int) ^ (183 + 90) = x at a b d2
  generalize (2 : Int) ^ 460 = z at c
  generalize o * 2 ^ (w * d) = u at a e
  omega
def lawMost : List Int := [1, 2, 3, 3, 6]
def lawOne (o : Int) : List Int := [0, o - 1, 1, o / 2]
def lawLess : List Int := [0, 1, 1, 2]
def lawMore (w : Nat) : List Int := [3, 2 ^ w]
/-- two numbers, the other over 0 -/
def spLPair : Sp := fun vs H Q _ => ∃ (p : Addr) (w : Nat), vs = [.ref p, .int (w : Int)] ∧ Src H p ∧ 8 ≤ w ∧ w ≤ 30 ∧ ∀ H' t x y, But p H H' → Src H' p → H' t = some (.tup [.int x, .int y]) → 0 ≤ x → x < 2 ^ 460 → 0 < y → y < 2 ^ 190 → Q (.ref t) H'
theorem ok_Lpair (T : Tx K mg) : Fn P wd K mg base 4 "_law_pair" pLPair spLPair := by
  have G_Ldraw : Fn P wd K mg base 1 "_law_draw" pLDraw spLDraw := ok_Ldraw T
  have G_Lpick : Fn P wd K mg base 2 "_law_pick" pLPick spLPick := ok_Lpick T
  have G_Lnumber : Fn P wd K mg base 3 "_law_number" pLNumber spLNumber := ok_Lnumber T
  refine T.d_Lpair.ok scLPair (fun vs H Q E h => ?_) (fun f cdv A outer s0 H vs Q E hr h => ?_)
  · obtain ⟨p, w, rfl, _⟩ := h
    rfl
  · obtain ⟨p, w, rfl, hs, h8, h30, q⟩ := h
    have hB := pwp w
    have hB2 := pw8 h8
    have hB3 := pw30 h30
    have e40 : (2 : Int) ^ 40 = 1099511627776 := by decide
    have pickd : ∀ {H H' : Hp} {l : Addr} {xs : List V}, Src H p → H l = none → (But p H (upd H l (.lst xs)) ∧ Src (upd H l (.lst xs)) p ∧ l ≠ p) := fun {H H' l xs} s nl => by
      have sl : Same H (upd H l (.lst xs)) := Same.new nl
      obtain ⟨ys, e⟩ := s.at
      exact ⟨But.of sl, s.same sl, (ne_of_none e nl).symm⟩
    refine ⟨_, (pss_cons (ps_set (i := 2) scLPair.nd rfl (.inl rfl) pe_int)
        (pss_cons (ps_for PassesOwn.never rfl (pi_range1 (by rfl) T.z_range (pa_cons pe_int pa_nil)) (pg_name (i := 3) scLPair.nd rfl (.inl rfl)) (pss_one (ps_if (pt_cmpR op_eq (pv 2) pe_int (nomark _)) (pss_one (ps_set (i := 2) scLPair.nd rfl (.inl rfl) (pe_fn G_Lnumber (hr.mono (by decide)) (pa_cons (pv 0) (pa_cons (pv 1) (pa_cons (pe_fn G_Lpick (hr.mono (by decide)) (pa_cons (pv 0) (pa_cons (pe_lst (pa_cons pe_int (pa_cons pe_int (pa_cons pe_int (pa_cons pe_int (pa_cons pe_int pa_nil)))))) pa_nil))) pa_nil)))))) pss_nil)))
        (pss_cons (ps_set (i := 2) scLPair.nd rfl (.inl rfl) (pe_op op_add (pv 2) (pe_callTy call_int1 (by rfl) T.z_int (by decide +kernel) (pa_cons (pe_cmpR op_eq (pv 2) pe_int (nomark _)) pa_nil))))
        (pss_cons (ps_par (i := 4) (j := 5) (by rfl) scLPair.nd rfl rfl (by decide) rfl rfl (pa_cons (pe_fn G_Ldraw (hr.mono (by decide)) (pa_cons (pv 0) (pa_cons pe_int pa_nil))) (pa_cons (pe_fn G_Lnumber (hr.mono (by decide)) (pa_cons (pv 0) (pa_cons (pv 1) (pa_cons pe_int pa_nil)))) pa_nil)) (by rfl))
        (C8.pss_cut (ps_if (pt_cmpR op_eq (pv 4) pe_int (nomark _)) (pss_one (ps_set (i := 5) scLPair.nd rfl (.inl rfl) (pe_op op_add (pe_op op_mulX (pv 2) (pv 5)) (pe_fn G_Lpick (hr.mono (by decide)) (pa_cons (pv 0) (pa_cons (pe_lst (pa_cons pe_int (pa_cons (pe_op op_sub (pv 2) pe_int) (pa_cons pe_int (pa_cons (pe_op op_fdiv (pv 2) pe_int) pa_nil))))) pa_nil)))))) (pss_one (ps_if (pt_cmpR op_eq (pv 4) pe_int (nomark _)) (pss_one (ps_set (i := 5) scLPair.nd rfl (.inl rfl) (pe_callB call_abs (by rfl) T.z_abs (by decide +kernel) (pa_cons (pe_op op_sub (pv 2) (pe_fn G_Ldraw (hr.mono (by decide)) (pa_cons (pv 0) (pa_cons (pe_op op_oneShl pe_int (pv 1)) pa_nil)))) pa_nil)))) (pss_one (ps_if (pt_cmpR op_eq (pv 4) pe_int (nomark _)) (pss_one (ps_set (i := 5) scLPair.nd rfl (.inl rfl) (pe_op op_sub (pe_op op_shlN (pv 2) (pe_op op_mul (pv 1) (pe_fn G_Ldraw (hr.mono (by decide)) (pa_cons (pv 0) (pa_cons pe_int pa_nil))))) (pe_fn G_Lpick (hr.mono (by decide)) (pa_cons (pv 0) (pa_cons (pe_lst (pa_cons pe_int (pa_cons pe_int (pa_cons pe_int (pa_cons pe_int pa_nil))))) pa_nil)))))) (pss_one (ps_if (pt_cmpR op_eq (pv 4) pe_int (nomark _)) (pss_one (ps_set (i := 2) scLPair.nd rfl (.inl rfl) (pe_op op_add (pe_op op_oneShl pe_int (pe_op op_sub (pe_op op_mul (pv 1) (pe_op op_add pe_int (pe_fn G_Ldraw (hr.mono (by decide)) (pa_cons (pv 0) (pa_cons pe_int pa_nil))))) pe_int)) (pe_fn G_Ldraw (hr.mono (by decide)) (pa_cons (pv 0) (pa_cons (pe_fn G_Lpick (hr.mono (by decide)) (pa_cons (pv 0) (pa_cons (pe_lst (pa_cons pe_int (pa_cons (pe_op op_oneShl pe_int (pv 1)) pa_nil))) pa_nil))) pa_nil)))))) pss_nil)))))))
        (pss_one (ps_ret (pe_tup (pa_cons (pe_callB call_abs (by rfl) T.z_abs (by decide +kernel) (pa_cons (pv 5) pa_nil)) (pa_cons (pv 2) pa_nil)))))))))), ?_⟩
    refine ⟨9, rfl, by decide, by decide, for_range (n := 9) (fun i σ H' => ∃ (o : Int) (tv : Option V), σ = [some (.ref p), some (.int (w : Int)), some (.int o), tv, none, none] ∧ But p H H' ∧ Src H' p ∧ 0 ≤ o ∧ o < 2 ^ (w * 6 + 3)) ⟨0, none, rfl, But.refl, hs, Int.le_refl _, pwp _⟩ ?_ ?_⟩
    · rintro i σ H' hi ⟨o, tv, rfl, b, s, o0, o1⟩
      refine ⟨_, rfl, rfl, _, rfl, ite2 (fun hz => ?_) (fun hz => ?_)⟩
      · refine ⟨_, rfl, _, rfl, _, rfl, by show 5 ≤ sizeLine; decide, fun l nl => ?_⟩
        obtain ⟨b1, s1, hlp⟩ := pickd (H' := H') (xs := lawMost.map V.int) s nl
        refine ⟨p, l, lawMost, rfl, s1, upd_same, hlp, by decide, by decide, fun H2 x b2 s2 hx => ?_⟩
        have hx2 : ∃ m : Nat, x = (m : Int) ∧ m ≤ 6 := by
          simp [lawMost] at hx
          rcases hx with rfl | rfl | rfl | rfl
          · exact ⟨1, rfl, by omega⟩
          · exact ⟨2, rfl, by omega⟩
          · exact ⟨3, rfl, by omega⟩
          · exact ⟨6, rfl, by omega⟩
        obtain ⟨m, rfl, hm⟩ := hx2
        refine ⟨p, w, m, rfl, s2, h8, h30, by omega, fun H3 n b3 s3 n0 n1 => ?_⟩
        exact ⟨n, _, rfl, b.trans (b1.trans (b2.trans b3)), s3, n0, Int.lt_of_lt_of_le n1 (pw_mono (by have := Nat.mul_le_mul_left w hm; omega))⟩
      · exact ⟨o, _, rfl, b, s, o0, o1⟩
    · rintro σ H' ⟨o, tv, rfl, b, s, o0, o1⟩
      have o2 : o < 2 ^ 183 := Int.lt_of_lt_of_le o1 (pw_mono (by omega))
      refine ⟨_, rfl, _, rfl, rfl, .inr ⟨_, rfl, _, _, rfl, rfl, ?_⟩⟩
      have k : ∃ y : Int, (o + if (decide (V.int o = V.int 0)) = true then 1 else 0) = y ∧ 0 < y ∧ y ≤ 2 ^ 183 := by
        refine ⟨_, rfl, ?_⟩
        generalize (2 : Int) ^ 183 = v at o2
        by_cases h : V.int o = V.int 0
        · have := V.int.inj h
          rw [if_pos (decide_eq_true h)]
          omega
        · rw [if_neg (fun z => h (of_decide_eq_true z))]
          have : o ≠ 0 := fun z => h (by rw [z])
          omega
      obtain ⟨y, ey, y0, y1⟩ := k
      dsimp only
      rw [ey]
      refine ⟨_, rfl, p, 6, rfl, s, by decide, by decide, fun H1 way b1 s1 hway => ?_⟩
      refine ⟨_, rfl, _, rfl, p, w, 9, rfl, s1, h8, h30, by omega, fun H2 n b2 s2 n0 n1 => ⟨_, _, rfl, ?_⟩⟩
      have b := b.trans (b1.trans b2)
      have n2 : n < 2 ^ 273 := Int.lt_of_lt_of_le n1 (pw_mono (by omega))
      have k184 : (2 : Int) ^ 183 < 2 ^ 184 := by
        have e : (2 : Int) ^ (183 + 1) = 2 ^ 183 * 2 := Int.pow_succ ..
        have := pwp 183
        show (2 : Int) ^ 183 < 2 ^ (183 + 1)
        rw [e]
        generalize (2 : Int) ^ 183 = v at this
        omega
      have y190 : y < 2 ^ 190 := Int.lt_of_le_of_lt y1 (Int.lt_of_lt_of_le k184 (pw_mono (by omega)))
      have n460 : (n.natAbs : Int) < 2 ^ 460 := by
        rw [Int.natAbs_of_nonneg n0]
        exact Int.lt_of_lt_of_le n2 (pw_mono (by omega))
      refine ⟨fun σ H' => ∃ x y : Int, σ = [some (.ref p), some (.int (w : Int)), some (.int y), tv, some (.int (way : Int)), some (.int x)] ∧ But p H H' ∧ Src H' p ∧ (x.natAbs : Int) < 2 ^ 460 ∧ 0 < y ∧ y < 2 ^ 190, ?_, ?_⟩
      · refine ⟨_, rfl, rfl, _, rfl, ite2 (fun h1 => ?_) (fun _ => ⟨_, rfl, rfl, _, rfl, ite2 (fun h2 => ?_) (fun _ => ⟨_, rfl, rfl, _, rfl, ite2 (fun h3 => ?_) (fun _ => ⟨_, rfl, rfl, _, rfl, ite2 (fun h4 => ?_) (fun _ => ?_)⟩)⟩)⟩)⟩
        · refine ⟨_, rfl, _, rfl, y, n, rfl, rfl, mulx_ok (a := 184) (b := 273) (abs_lt' ?_) (abs_lt' ?_) (by decide), ?_⟩
          · rw [Int.natAbs_of_nonneg (Int.le_of_lt y0)]
            exact Int.lt_of_le_of_lt y1 k184
          · rw [Int.natAbs_of_nonneg n0]
            exact n2
          refine ⟨_, rfl, _, rfl, _, _, rfl, rfl, _, rfl, _, _, rfl, rfl, ⟨by decide, by decide⟩, by show 4 ≤ sizeLine; decide, fun l nl => ?_⟩
          obtain ⟨b3, s3, hlp⟩ := pickd (H' := H') (xs := (lawOne y).map V.int) s2 nl
          refine ⟨p, l, lawOne y, rfl, s3, upd_same, hlp, by show 0 < 4; decide, by show 4 < 1000; decide, fun H4 x b4 s4 hx => ⟨_, _, rfl, rfl, ?_⟩⟩
          have hx2 : 0 ≤ x ∧ x ≤ y := by
            simp [lawOne] at hx
            rcases hx with rfl | rfl | rfl | rfl <;> constructor <;> omega
          exact ⟨y * n + x, y, rfl, b.trans (b3.trans b4), s4, pair_b1 (Int.le_of_lt y0) y1 n0 n2 hx2.1 hx2.2, y0, y190⟩
        · refine ⟨_, rfl, _, rfl, _, rfl, w, rfl, rfl, by omega, p, 2 ^ w, rfl, s2, hB, by omega, fun H3 d b3 s3 hd => ⟨_, _, rfl, rfl, _, rfl, ?_⟩⟩
          have hd2 : (d : Int) < 1073741824 := Int.lt_of_lt_of_le hd hB3
          refine ⟨_, y, rfl, b.trans b3, s3, ?_, y0, y190⟩
          have c : (2 : Int) ^ 190 ≤ 2 ^ 460 := pw_mono (by omega)
          have c2 : (2 : Int) ^ 40 ≤ 2 ^ 460 := pw_mono (by omega)
          rw [e40] at c2
          clear k184 y1 n2 e40
          generalize (2 : Int) ^ 190 = v at y190 c
          generalize (2 : Int) ^ 460 = z at c c2 ⊢
          split <;> omega
        · refine ⟨_, rfl, _, rfl, _, rfl, p, 4, rfl, s2, by decide, by decide, fun H3 d b3 s3 hd => ?_⟩
          have hwd : w * d ≤ 30 * 3 := Nat.mul_le_mul h30 (by omega)
          refine ⟨(w : Int), (d : Int), rfl, rfl, .inl ⟨by omega, by omega⟩, y, w * d, rfl, congrArg V.int (Int.natCast_mul w d).symm, shl_ok (n := 184) (abs_lt' ?_) (by omega), ?_⟩
          · rw [Int.natAbs_of_nonneg (Int.le_of_lt y0)]
            exact Int.lt_of_le_of_lt y1 k184
          refine ⟨_, rfl, by show 4 ≤ sizeLine; decide, fun l nl => ?_⟩
          obtain ⟨b4, s4, hlp⟩ := pickd (H' := H') (xs := lawLess.map V.int) s3 nl
          refine ⟨p, l, lawLess, rfl, s4, upd_same, hlp, by show 0 < 4; decide, by show 4 < 1000; decide, fun H4 x b5 s5 hx => ⟨_, _, rfl, rfl, ?_⟩⟩
          have hx2 : 0 ≤ x ∧ x ≤ 2 := by
            simp [lawLess] at hx
            rcases hx with rfl | rfl | rfl <;> decide
          exact ⟨y * 2 ^ (w * d) - x, y, rfl, b.trans (b3.trans (b4.trans b5)), s5, pair_b3 (Int.le_of_lt y0) y1 h30 (by omega) hx2.1 hx2.2, y0, y190⟩
        · refine ⟨_, rfl, _, rfl, p, 4, rfl, s2, by decide, by decide, fun H3 d b3 s3 hd => ?_⟩
          obtain ⟨k, hk, hk2⟩ : ∃ k : Nat, (w : Int) * (1 + (d : Int)) = (k : Int) + 1 ∧ k < 120 := by
            have a : 1 * 1 ≤ w * (1 + d) := Nat.mul_le_mul (by omega) (by omega)
            have c : w * (1 + d) ≤ 30 * 4 := Nat.mul_le_mul h30 (by omega)
            have e : ((w * (1 + d) : Nat) : Int) = (w : Int) * (1 + (d : Int)) := by
              rw [Int.natCast_mul, Int.natCast_add]
              rfl
            refine ⟨w * (1 + d) - 1, ?_, by omega⟩
            rw [← e]
            generalize w * (1 + d) = u at a c
            omega
          refine ⟨_, _, rfl, rfl, (w : Int), 1 + (d : Int), rfl, rfl, .inl ⟨by omega, by omega⟩, _, _, rfl, rfl, k, rfl, congrArg V.int (by rw [hk]; omega), by omega, ?_⟩
          refine ⟨_, rfl, _, rfl, _, rfl, w, rfl, rfl, by omega, by show 2 ≤ sizeLine; decide, fun l nl => ?_⟩
          obtain ⟨b4, s4, hlp⟩ := pickd (H' := H') (xs := (lawMore w).map V.int) s3 nl
          refine ⟨p, l, lawMore w, rfl, s4, upd_same, hlp, by show 0 < 2; decide, by show 2 < 1000; decide, fun H4 x b5 s5 hx => ?_⟩
          have hx2 : 0 < x ∧ x ≤ 1073741824 := by
            simp [lawMore] at hx
            rcases hx with rfl | rfl
            · decide
            · omega
          refine ⟨p, x, rfl, s5, hx2.1, by omega, fun H5 c b6 s6 hc => ⟨_, _, rfl, rfl, ?_⟩⟩
          have u0 := pwp k
          have u1 : (2 : Int) ^ k ≤ 2 ^ 120 := pw_mono (by omega)
          have u2 : (2 : Int) ^ (120 + 1) ≤ 2 ^ 190 := pw_mono (by omega)
          have u3 : (2 : Int) ^ (120 + 1) = 2 ^ 120 * 2 := Int.pow_succ ..
          have u4 : (2 : Int) ^ 40 ≤ 2 ^ 120 := pw_mono (by omega)
          refine ⟨n, 2 ^ k + (c : Int), rfl, b.trans (b3.trans (b4.trans (b5.trans b6))), s6, n460, by omega, ?_⟩
          rw [e40] at u4
          clear k184 y190 n2 e40 n460 y1 o2 o1 ey
          generalize (2 : Int) ^ (120 + 1) = z at u2 u3
          generalize (2 : Int) ^ 190 = zz at u2 ⊢
          generalize (2 : Int) ^ 120 = v at u1 u3 u4
          omega
        · exact ⟨n, y, rfl, b, s2, n460, y0, y190⟩
      · rintro σ H' ⟨x, y, rfl, b, s, x1, y0, y1⟩
        refine ⟨_, rfl, x, rfl, _, rfl, by show 2 ≤ sizeLine; decide, fun t nt => ?_⟩
        rw [show (if x < 0 then -x else x) = (x.natAbs : Int) by split <;> omega]
        have st : Same H' (upd H' t (.tup [.int (x.natAbs : Int), .int y])) := Same.new nt
        exact q _ t _ y (b.trans (But.of st)) (s.same st) upd_same (Int.natCast_nonneg _) x1 y0 y1
end Tb
set_option Elab.async false
set_option linter.all false
/-! what the law asks of two divisions -/
namespace Ar
def offB (a b : Int) : Bool := if a.tmod b = 0 then false else !decide (decide (a < 0) = decide (b < 0))
theorem right_off {a b : Int} (hb : b ≠ 0) : a.fdiv b = a.tdiv b - (if offB a b = true then 1 else 0) ∧ a.fmod b = a.tmod b + b * (if offB a b = true then 1 else 0) := by
  obtain ⟨t1, t2, t3, t4, t5, t6⟩ := tmod_facts a hb
  obtain ⟨f1, f2⟩ := floor_of_trunc a hb
  have sg : ∀ x : Int, (0 < x ∧ x.sign = 1) ∨ (x = 0 ∧ x.sign = 0) ∨ (x < 0 ∧ x.sign = -1) := fun x => by
    rcases Int.lt_trichotomy x 0 with h | h | h
    · exact .inr (.inr ⟨h, Int.sign_eq_neg_one_of_neg h⟩)
    · exact .inr (.inl ⟨h, by rw [h]; rfl⟩)
    · exact .inl ⟨h, Int.sign_eq_one_of_pos h⟩
  have key : offB a b = true ↔ (a.tmod b).sign * b.sign < 0 := by
    unfold offB
    by_cases h0 : a.tmod b = 0
    · rw [if_pos h0, h0]
      simp
    · rw [if_neg h0]
      have hn : ∀ c : Bool, (!c) = true ↔ ¬ c = true := fun c => by cases c <;> simp
      rw [hn]
      rcases sg (a.tmod b) with ⟨h1, h2⟩ | ⟨h1, h2⟩ | ⟨h1, h2⟩
      · have ha : ¬ a < 0 := fun z => by have := t6 (by omega); omega
        rcases sg b with ⟨h3, h4⟩ | ⟨h3, h4⟩ | ⟨h3, h4⟩
        · rw [h2, h4, decide_eq_false ha, decide_eq_false (show ¬ b < 0 by omega)]
          simp
        · exact absurd h3 hb
        · rw [h2, h4, decide_eq_false ha, decide_eq_true h3]
          simp
      · exact absurd h1 h0
      · have ha : a < 0 := by
          rcases Int.lt_or_le a 0 with z | z
          · exact z
          · have := t5 z
            omega
        rcases sg b with ⟨h3, h4⟩ | ⟨h3, h4⟩ | ⟨h3, h4⟩
        · rw [h2, h4, decide_eq_true ha, decide_eq_false (show ¬ b < 0 by omega)]
          simp
        · exact absurd h3 hb
        · rw [h2, h4, decide_eq_true ha, decide_eq_true h3]
          simp
  by_cases h : offB a b = true
  · rw [if_pos h, Int.mul_one]
    exact f1 (key.mp h)
  · rw [if_neg h, Int.mul_zero, Int.sub_zero, Int.add_zero]
    exact f2 (fun z => h (key.mpr z))
theorem right_facts {a b : Int} (hb : b ≠ 0) : a.tdiv b * b + a.tmod b = a ∧ a.fdiv b * b + a.fmod b = a ∧ ((a.tmod b).natAbs < b.natAbs ∧ (a.fmod b).natAbs < b.natAbs) ∧ ¬ a.tmod b * a < 0 ∧ ¬ a.fmod b * b < 0 ∧
    ((a.tmod b).natAbs ≤ a.natAbs ∧ (a.tdiv b).natAbs ≤ a.natAbs ∧ (a.fdiv b).natAbs ≤ a.natAbs + 1) ∧ ((0 - a).tdiv b = 0 - a.tdiv b ∧ (0 - a).tmod b = 0 - a.tmod b) := by
  obtain ⟨t1, t2, t3, t4, t5, t6⟩ := tmod_facts a hb
  obtain ⟨f1, f2, f3⟩ := fmod_facts a hb
  obtain ⟨o1, o2⟩ := right_off (a := a) hb
  refine ⟨by rw [Int.mul_comm]; omega, by rw [Int.mul_comm]; omega, ⟨by omega, by omega⟩, fun z => ?_, fun z => ?_, ⟨t2, t3, ?_⟩, ?_, ?_⟩
  · rcases Int.le_total 0 a with h | h
    · have := Int.mul_nonneg (t5 h) h
      omega
    · have := Int.mul_nonneg_of_nonpos_of_nonpos (t6 h) h
      omega
  · rcases Int.lt_or_lt_of_ne hb with h | h
    · have := Int.mul_nonneg_of_nonpos_of_nonpos (f3 h).2 (Int.le_of_lt h)
      omega
    · have := Int.mul_nonneg (f2 h).1 (Int.le_of_lt h)
      omega
  · rw [o1]
    split <;> omega
  · rw [Int.zero_sub, Int.neg_tdiv, Int.zero_sub]
  · rw [Int.zero_sub, Int.neg_tmod, Int.zero_sub]
end Ar
set_option Elab.async false
set_option linter.all false
set_option maxRecDepth 100000
set_option maxHeartbeats 4000000
set_option exponentiation.threshold 4001
/-! the law of the divisions, at one pair -/
namespace Tb
open PySem PySem.Spec PyProof.Rows L2
variable {P : Program} {wd : World} {K : PySem.W.Frag} {mg : Str → Option Value} {base : Heap}
theorem orF {c : Bool} {A B : Prop} (h : c = false) (hb : B) : if c = true then A else B := by
  rw [h]
  exact iteF hb
theorem sm460 {n : Int} (h : n.natAbs < 2 ^ 460) : Sm n := Nat.lt_of_lt_of_le h (Nat.pow_le_pow_right (by decide) (by decide))
theorem sm461 {a n : Int} (h : a.natAbs < 2 ^ 460) (hn : n.natAbs ≤ a.natAbs + 1) : Sm n ∧ n.natAbs < 2 ^ 461 := by
  have e : 2 ^ 461 = 2 ^ 460 * 2 := Nat.pow_succ ..
  have f : 0 < 2 ^ 460 := Nat.pow_pos (by decide)
  have g : n.natAbs < 2 ^ 461 := by
    rw [e]
    generalize 2 ^ 460 = z at h f
    omega
  exact ⟨Nat.lt_of_lt_of_le g (Nat.pow_le_pow_right (by decide) (by decide)), g⟩
theorem abs_if {n : Int} : (if n < 0 then -n else n) = (n.natAbs : Int) := by split <;> omega
def spLRight (K : PySem.W.Frag) : Sp := fun vs H Q _ => ∃ (m cA eA : Addr) (w : Nat) (a b : Int), vs = [.ref m, .int a, .int b] ∧ Mach K H m cA eA w ∧ a.natAbs < 2 ^ 460 ∧ b.natAbs < 2 ^ 460 ∧ b ≠ 0 ∧ ∀ H', Go cA eA H H' → Mach K H' m cA eA w → Q (.bl true) H'
theorem ok_Lright (T : Tx K mg) : Fn P wd K mg base 9 "_law_right" pLRight (spLRight K) := by
  have G_big : Fn P wd K mg base 5 "big" pBig (spBigOf K) := ok_big T
  have G_truncated : Fn P wd K mg base 6 "truncated" pTruncated (spDivs K Int.tdiv Int.tmod) := ok_truncated T
  have G_divide_both : Fn P wd K mg base 7 "divide_both" pDivideBoth (spDivs K Int.fdiv Int.fmod) := ok_divide_both T
  have G_floor_divide : Fn P wd K mg base 8 "floor_divide" pFloorDivide (spDiv1 K Int.fdiv) := ok_floor_divide T
  have G_modulo : Fn P wd K mg base 7 "modulo" pModulo (spDiv1 K Int.fmod) := ok_modulo T
  have G_Lvalues : Fn P wd K mg base 3 "_law_values" pLValues (spLValues K) := ok_Lvalues T
  have G_plain : Fn P wd K mg base 2 "plain" pPlain (spValueOf K) := ok_plain T
  refine T.d_Lright.ok scLRight (fun vs H Q E h => ?_) (fun f cdv A outer s0 H vs Q E hr h => ?_)
  · obtain ⟨m, cA, eA, w, a, b, rfl, _⟩ := h
    rfl
  · obtain ⟨m, cA, eA, w, a, b, rfl, M, ha, hb, hb0, q⟩ := h
    have sa := sm460 ha
    have sb := sm460 hb
    have h8 := M.w8
    have h30 := M.w30
    obtain ⟨f1, f2, ⟨f3, f4⟩, f5, f6, ⟨f7, f8, f9⟩, f10, f11⟩ := Ar.right_facts (a := a) hb0
    obtain ⟨o1, o2⟩ := Ar.right_off (a := a) hb0
    obtain ⟨sn, bn⟩ := sm461 ha (Nat.le_succ_of_le f8)
    obtain ⟨sr, br⟩ := sm461 ha (Nat.le_succ_of_le f7)
    obtain ⟨sl, bl⟩ := sm461 ha f9
    obtain ⟨sd, bd⟩ := sm461 hb (Nat.le_succ_of_le (Nat.le_of_lt f4))
    refine ⟨_, (pss_cons (ps_par (i := 3) (j := 4) (by rfl) scLRight.nd rfl rfl (by decide) rfl rfl (pa_cons (pe_fn G_big (hr.mono (by decide)) (pa_cons (pv 0) (pa_cons (pv 1) pa_nil))) (pa_cons (pe_fn G_big (hr.mono (by decide)) (pa_cons (pv 0) (pa_cons (pv 2) pa_nil))) pa_nil)) (by rfl))
        (pss_cons (ps_asg (pe_fn G_Lvalues (hr.mono (by decide)) (pa_cons (pe_fn G_truncated (hr.mono (by decide)) (pa_cons (pv 0) (pa_cons (pv 3) (pa_cons (pv 4) pa_nil)))) pa_nil)) (pg_tup (by rfl) (pgs_cons (pg_name (i := 5) scLRight.nd rfl (.inl rfl)) (pgs_cons (pg_name (i := 6) scLRight.nd rfl (.inl rfl)) pgs_nil))))
        (pss_cons (ps_asg (pe_fn G_Lvalues (hr.mono (by decide)) (pa_cons (pe_fn G_divide_both (hr.mono (by decide)) (pa_cons (pv 0) (pa_cons (pv 3) (pa_cons (pv 4) pa_nil)))) pa_nil)) (pg_tup (by rfl) (pgs_cons (pg_name (i := 7) scLRight.nd rfl (.inl rfl)) (pgs_cons (pg_name (i := 8) scLRight.nd rfl (.inl rfl)) pgs_nil))))
        (pss_cons (ps_if (PW.pt (pw_or (pt_cmpR op_ne (pe_op op_add (pe_op op_mulX (pv 5) (pv 2)) (pv 6)) (pv 1) (nomark _)) (pw_or1 (pt_cmpR op_ne (pe_op op_add (pe_op op_mulX (pv 7) (pv 2)) (pv 8)) (pv 1) (nomark _))))) (pss_one (ps_ret pe_bl)) pss_nil)
        (pss_cons (ps_if (PW.pt (pw_or (pt_cmpR op_ge (pe_callB call_abs (by rfl) T.z_abs (by decide +kernel) (pa_cons (pv 6) pa_nil)) (pe_callB call_abs (by rfl) T.z_abs (by decide +kernel) (pa_cons (pv 2) pa_nil)) (nomark _)) (pw_or (pt_cmpR op_ge (pe_callB call_abs (by rfl) T.z_abs (by decide +kernel) (pa_cons (pv 8) pa_nil)) (pe_callB call_abs (by rfl) T.z_abs (by decide +kernel) (pa_cons (pv 2) pa_nil)) (nomark _)) (pw_or (pt_cmpR op_lt (pe_op op_mulX (pv 6) (pv 1)) pe_int (nomark _)) (pw_or1 (pt_cmpR op_lt (pe_op op_mulX (pv 8) (pv 2)) pe_int (nomark _))))))) (pss_one (ps_ret pe_bl)) pss_nil)
        (pss_cons (ps_if (PW.pt (pw_or (pt_cmpR op_ne (pe_fn G_plain (hr.mono (by decide)) (pa_cons (pe_fn G_floor_divide (hr.mono (by decide)) (pa_cons (pv 0) (pa_cons (pv 3) (pa_cons (pv 4) pa_nil)))) pa_nil)) (pv 7) (nomark _)) (pw_or1 (pt_cmpR op_ne (pe_fn G_plain (hr.mono (by decide)) (pa_cons (pe_fn G_modulo (hr.mono (by decide)) (pa_cons (pv 0) (pa_cons (pv 3) (pa_cons (pv 4) pa_nil)))) pa_nil)) (pv 8) (nomark _))))) (pss_one (ps_ret pe_bl)) pss_nil)
        (C8.pss_cut (ps_set (i := 9) scLRight.nd rfl (.inl rfl) (pe_and (pe_cmpR op_ne (pv 6) pe_int (nomark _)) (pe_one (pe_cmpR op_ne (pe_cmpR op_lt (pv 1) pe_int (nomark _)) (pe_cmpR op_lt (pv 2) pe_int (nomark _)) (nomark _)))))
        (pss_cons (ps_if (pt_cmpR (op_neD hr.units) (pe_tup (pa_cons (pv 7) (pa_cons (pv 8) pa_nil))) (pe_tup (pa_cons (pe_op op_sub (pv 5) (pe_callTy call_int1 (by rfl) T.z_int (by decide +kernel) (pa_cons (pv 9) pa_nil))) (pa_cons (pe_op op_add (pv 6) (pe_op op_mul (pv 2) (pe_callTy call_int1 (by rfl) T.z_int (by decide +kernel) (pa_cons (pv 9) pa_nil)))) pa_nil))) (nomark _)) (pss_one (ps_ret pe_bl)) pss_nil)
        (pss_cons (ps_set (i := 10) scLRight.nd rfl (.inl rfl) (pe_fn G_Lvalues (hr.mono (by decide)) (pa_cons (pe_fn G_truncated (hr.mono (by decide)) (pa_cons (pv 0) (pa_cons (pe_fn G_big (hr.mono (by decide)) (pa_cons (pv 0) (pa_cons (pe_op op_sub pe_int (pv 1)) pa_nil))) (pa_cons (pv 4) pa_nil)))) pa_nil)))
        (pss_one (ps_ret (pe_cmpR (op_eqD hr.units) (pv 10) (pe_tup (pa_cons (pe_op op_sub pe_int (pv 5)) (pa_cons (pe_op op_sub pe_int (pv 6)) pa_nil))) (nomark _))))))))))))), ?_⟩
    refine ⟨_, rfl, _, rfl, m, cA, eA, w, a, rfl, M, sa, fun H1 x s1 B1 => ⟨_, rfl, _, rfl, m, cA, eA, w, b, rfl, M.same s1, sb, fun H2 y s2 B2 => ⟨_, _, rfl, ?_⟩⟩⟩
    have M2 := M.same (s1.trans s2)
    have B1 := B1.same s2
    refine ⟨_, rfl, _, rfl, _, rfl, m, cA, eA, x, y, w, a, b, rfl, M2, B1, B2, sa, sb, hb0, fun H3 T3 p3 r3 g3 M3 hT3 C3 D3 => ?_⟩
    refine ⟨T3, p3, r3, w, _, _, rfl, hT3, C3, D3, h8, h30, sn, sr, fun H4 t4 s4 ht4 => ⟨t4, _, rfl, SqT.of ht4, rfl, _, _, rfl, _, _, rfl, rfl, ?_⟩⟩
    have M4 := M3.same s4
    have B14 := (B1.go g3 M2).same s4
    have B24 := (B2.go g3 M2).same s4
    refine ⟨_, rfl, _, rfl, _, rfl, m, cA, eA, x, y, w, a, b, rfl, M4, B14, B24, sa, sb, hb0, fun H5 T5 p5 r5 g5 M5 hT5 C5 D5 => ?_⟩
    refine ⟨T5, p5, r5, w, _, _, rfl, hT5, C5, D5, h8, h30, sl, sd, fun H6 t6 s6 ht6 => ⟨t6, _, rfl, SqT.of ht6, rfl, _, _, rfl, _, _, rfl, rfl, ?_⟩⟩
    have M6 := M5.same s6
    have B16 := (B14.go g5 M4).same s6
    have B26 := (B24.go g5 M4).same s6
    have g06 : Go cA eA H H6 := (((Same.go (s1.trans s2)).trans (g3.same s4)).trans (g5.same s6))
    refine ⟨_, rfl, _, rfl, _, _, rfl, rfl, mulx_ok bn hb (by decide), _, rfl, _, _, rfl, rfl, _, rfl, rfl, _, rfl, ?_⟩
    refine orF (congrArg not (decide_eq_true (congrArg V.int f1))) ?_
    refine ⟨_, rfl, _, rfl, _, _, rfl, rfl, mulx_ok bl hb (by decide), _, rfl, _, _, rfl, rfl, _, rfl, rfl, _, rfl, ?_⟩
    refine orF (congrArg not (decide_eq_true (congrArg V.int f2))) ?_
    refine ⟨_, rfl, _, rfl, _, rfl, _, rfl, _, _, rfl, rfl, _, rfl, ?_⟩
    refine orF (by rw [abs_if, abs_if]; exact decide_eq_false (by omega)) ?_
    refine ⟨_, rfl, _, rfl, _, rfl, _, rfl, _, _, rfl, rfl, _, rfl, ?_⟩
    refine orF (by rw [abs_if, abs_if]; exact decide_eq_false (by omega)) ?_
    refine ⟨_, rfl, _, rfl, _, _, rfl, rfl, mulx_ok br ha (by decide), _, _, rfl, rfl, _, rfl, ?_⟩
    refine orF (decide_eq_false f5) ?_
    refine ⟨_, rfl, _, rfl, _, _, rfl, rfl, mulx_ok bd hb (by decide), _, _, rfl, rfl, _, rfl, ?_⟩
    refine orF (decide_eq_false f6) ?_
    refine ⟨_, rfl, _, rfl, _, rfl, m, cA, eA, x, y, w, a, b, rfl, M6, B16, B26, sa, sb, hb0, fun H7 p7 g7 M7 C7 => ?_⟩
    refine ⟨p7, w, _, rfl, C7, h8, h30, sl, fun H8 s8 => ⟨_, rfl, rfl, _, rfl, ?_⟩⟩
    refine orF (by rw [decide_eq_true rfl]; rfl) ?_
    have M8 := M7.same s8
    have B18 := (B16.go g7 M6).same s8
    have B28 := (B26.go g7 M6).same s8
    refine ⟨_, rfl, _, rfl, _, rfl, m, cA, eA, x, y, w, a, b, rfl, M8, B18, B28, sa, sb, hb0, fun H9 p9 g9 M9 C9 => ?_⟩
    refine ⟨p9, w, _, rfl, C9, h8, h30, sd, fun H10 s10 => ⟨_, rfl, rfl, _, rfl, ?_⟩⟩
    refine orF (by rw [decide_eq_true rfl]; rfl) ?_
    have M10 := M9.same s10
    have B210 := (B28.go g9 M8).same s10
    have g010 := (g06.trans (g7.same s8)).trans (g9.same s10)
    refine ⟨fun σ' H' => σ' = [some (.ref m), some (.int a), some (.int b), some (.ref x), some (.ref y), some (.int (a.tdiv b)), some (.int (a.tmod b)), some (.int (a.fdiv b)), some (.int (a.fmod b)), some (.bl (Ar.offB a b)), none] ∧ H' = H10, ?_, ?_⟩
    · refine ⟨_, rfl, rfl, _, rfl, ?_⟩
      by_cases h0 : a.tmod b = 0
      · have e1 : (!decide (V.int (a.tmod b) = V.int 0)) = false := by rw [h0]; rfl
        have e2 : Ar.offB a b = false := if_pos h0
        rw [e1, e2]
        exact iteF ⟨rfl, rfl⟩
      · have e1 : (!decide (V.int (a.tmod b) = V.int 0)) = true := by
          rw [decide_eq_false (fun z => h0 (V.int.inj z))]
          rfl
        have e2 : Ar.offB a b = !decide (V.bl (decide (a < 0)) = V.bl (decide (b < 0))) := by
          have e3 : decide (V.bl (decide (a < 0)) = V.bl (decide (b < 0))) = decide (decide (a < 0) = decide (b < 0)) := decide_eq_decide.mpr ⟨fun z => V.bl.inj z, fun z => by rw [z]⟩
          rw [e3]
          exact if_neg h0
        rw [e1, e2]
        refine iteT ?_
        refine ⟨_, rfl, _, _, rfl, rfl, _, rfl, _, _, rfl, rfl, rfl, ?_⟩
        exact ⟨rfl, rfl⟩
    · rintro σ' H' ⟨rfl, rfl⟩
      refine ⟨_, rfl, _, rfl, by show 2 ≤ sizeLine; decide, fun t nt => ?_⟩
      refine ⟨_, rfl, _, rfl, .inr ⟨_, rfl, _, _, rfl, rfl, _, rfl, _, rfl, _, rfl, .inr ⟨_, rfl, _, _, rfl, rfl, .inr (b2i_bd _), _, _, rfl, rfl, by show 2 ≤ sizeLine; decide, fun u nu => ?_⟩⟩⟩
      have st := Same.new (o := .tup [.int (a.fdiv b), .int (a.fmod b)]) nt
      have su := Same.new (o := .tup [.int (a.tdiv b - if Ar.offB a b = true then 1 else 0), .int (a.tmod b + b * if Ar.offB a b = true then 1 else 0)]) nu
      refine ⟨_, _, .tup (SqT.of (su _ _ upd_same)) (.cons (.int _) (.cons (.int _) .nil)), .tup (SqT.of upd_same) (.cons (.int _) (.cons (.int _) .nil)), rfl, rfl, _, rfl, ?_⟩
      refine orF (by rw [← o1, ← o2]; simp [PyData.eqv, PyData.eqvAll]) ?_
      have stu := st.trans su
      have M11 := M10.same stu
      have B11 := B210.same stu
      have a0 : (0 - a).natAbs < 2 ^ 460 := by rw [Int.zero_sub, Int.natAbs_neg]; exact ha
      obtain ⟨sn2, _⟩ := sm461 (a := a) (n := 0 - a.tdiv b) ha (by omega)
      obtain ⟨sr2, _⟩ := sm461 (a := a) (n := 0 - a.tmod b) ha (by omega)
      refine ⟨_, rfl, _, rfl, _, rfl, _, _, rfl, rfl, m, cA, eA, w, 0 - a, rfl, M11, sm460 a0, fun H12 z s12 Z => ?_⟩
      refine ⟨_, rfl, m, cA, eA, z, y, w, 0 - a, b, rfl, M11.same s12, Z, B11.same s12, sm460 a0, sb, hb0, fun H13 T13 p13 r13 g13 M13 hT13 C13 D13 => ?_⟩
      rw [f10] at C13
      rw [f11] at D13
      refine ⟨T13, p13, r13, w, _, _, rfl, hT13, C13, D13, h8, h30, sn2, sr2, fun H14 t14 s14 ht14 => ?_⟩
      refine ⟨_, rfl, _, rfl, _, _, rfl, rfl, _, rfl, _, _, rfl, rfl, by show 2 ≤ sizeLine; decide, fun v nv => ?_⟩
      have sv := Same.new (o := .tup [.int (0 - a.tdiv b), .int (0 - a.tmod b)]) nv
      refine ⟨_, _, .tup (SqT.of (sv _ _ ht14)) (.cons (.int _) (.cons (.int _) .nil)), .tup (SqT.of upd_same) (.cons (.int _) (.cons (.int _) .nil)), rfl, rfl, ?_⟩
      have e : PyData.eqv (.tuple [.int (0 - a.tdiv b), .int (0 - a.tmod b)]) (.tuple [.int (0 - a.tdiv b), .int (0 - a.tmod b)]) = true := by simp [PyData.eqv, PyData.eqvAll]
      have fin := q (upd H14 v (.tup [.int (0 - a.tdiv b), .int (0 - a.tmod b)])) (((g010.same stu).same s12).trans (g13.same (s14.trans sv))) (M13.same (s14.trans sv))
      rw [← e] at fin
      exact fin
end Tb
set_option Elab.async false
set_option linter.all false
/-! a long division, of both scaled -/
namespace Ar
theorem Long.up {w n : Nat} {x y : Int} {st : List Stp} {e : Nat} (h : Long w n x y st) (hy : y * 2 ^ e < ((2 : Int) ^ w) ^ n) : Long w n (x * 2 ^ e) (y * 2 ^ e) st := by
  obtain ⟨d, k, N, a1, a2, rfl⟩ := h
  have hB := p2 w
  have p1 := pw_pos hB (n - 1)
  have n2 := N.n2
  have en : ((2 : Int) ^ w) ^ n = ((2 : Int) ^ w) ^ (n - 1) * 2 ^ w := by
    have := pw_succ ((2 : Int) ^ w) (n - 1)
    rwa [show n - 1 + 1 = n by omega] at this
  have b1 : y * 2 ^ d / ((2 : Int) ^ w) ^ (n - 1) * ((2 : Int) ^ w) ^ (n - 1) ≤ y * 2 ^ d := ediv_mul_le' p1
  have b2 : (2 : Int) ^ w * ((2 : Int) ^ w) ^ (n - 1) ≤ 2 * (y * 2 ^ d / ((2 : Int) ^ w) ^ (n - 1)) * ((2 : Int) ^ w) ^ (n - 1) := Int.mul_le_mul_of_nonneg_right N.lo (Int.le_of_lt p1)
  have b3 : 2 * (y * 2 ^ d / ((2 : Int) ^ w) ^ (n - 1)) * ((2 : Int) ^ w) ^ (n - 1) = 2 * (y * 2 ^ d / ((2 : Int) ^ w) ^ (n - 1) * ((2 : Int) ^ w) ^ (n - 1)) := Int.mul_assoc ..
  have b4 : ((2 : Int) ^ w) ^ n ≤ 2 * (y * 2 ^ d) := by
    rw [en, Int.mul_comm]
    omega
  have hed : e ≤ d := by
    apply Nat.le_of_not_lt
    intro hlt
    have y0 : 0 < y * 2 ^ d := by
      have := pw_pos hB n
      omega
    have c1 : y * 2 ^ e = y * 2 ^ d * 2 * 2 ^ (e - d - 1) := by
      rw [Int.mul_assoc, Int.mul_assoc, show (2 : Int) * 2 ^ (e - d - 1) = 2 ^ (e - d - 1 + 1) by rw [Int.pow_succ, Int.mul_comm], ← Int.pow_add, show d + (e - d - 1 + 1) = e by omega]
    have c2 : y * 2 ^ d * 2 * 1 ≤ y * 2 ^ d * 2 * 2 ^ (e - d - 1) := Int.mul_le_mul_of_nonneg_left (p2 (e - d - 1)) (by omega)
    omega
  have q : ∀ z : Int, z * 2 ^ e * 2 ^ (d - e) = z * 2 ^ d := fun z => by rw [Int.mul_assoc, ← Int.pow_add, show e + (d - e) = d by omega]
  refine ⟨d - e, k, ?_⟩
  rw [q x, q y]
  exact ⟨N, a1, a2, rfl⟩
/-- below as rows: no step -/
theorem Long.below {w n : Nat} {x y : Int} {st : List Stp} {e : Nat} {la lb : List Int} (hw : 0 < w) (h : Long w n x y st) (hy : y * 2 ^ e < ((2 : Int) ^ w) ^ n) (hy0 : 0 < y) (ha : Row ((2 : Int) ^ w) la (x * 2 ^ e)) (hb : Row ((2 : Int) ^ w) lb (y * 2 ^ e)) (hn : lb.length = n)
    (hl : belowB la lb = true) : st = [] := by
  have hB1 : (1 : Int) < 2 ^ w := by
    have := pow_le (show 1 ≤ w from hw)
    have e : (2 : Int) ^ 1 = 2 := by decide
    omega
  have hye : 0 < y * 2 ^ e := Int.mul_pos hy0 (p2 e)
  have b := below_lt hB1 ha hb (by omega) hl
  rw [hn] at b
  exact (h.up hy).none hw b
theorem len_up {w e : Nat} {y : Int} {lb lc : List Int} (hw : 0 < w) (hy0 : 0 < y) (hb : Row ((2 : Int) ^ w) lb y) (hc : Row ((2 : Int) ^ w) lc (y * 2 ^ e)) (h : y * 2 ^ e < ((2 : Int) ^ w) ^ lb.length) : lc.length = lb.length := by
  have hB1 : (1 : Int) < 2 ^ w := by
    have := pow_le (show 1 ≤ w from hw)
    have e : (2 : Int) ^ 1 = 2 := by decide
    omega
  have hB := p2 w
  have hp := hb.pos hB (by omega)
  have g := hb.ge hB (fun z => by rw [z] at hp; simp at hp)
  have k : y * 1 ≤ y * 2 ^ e := Int.mul_le_mul_of_nonneg_left (p2 e) (by omega)
  have r := hc.len_of hB1 (k := lb.length - 1) (by omega) (by rw [show lb.length - 1 + 1 = lb.length by omega]; exact h)
  omega
end Ar
set_option Elab.async false
set_option linter.all false
set_option maxRecDepth 100000
set_option maxHeartbeats 4000000
set_option exponentiation.threshold 4001
/-! the law of the long walks, at one pair -/
namespace Tb
open PySem PySem.Spec PyProof.Rows L2
variable {P : Program} {wd : World} {K : PySem.W.Frag} {mg : Str → Option Value} {base : Heap}
def stpD (s : Ar.Stp) : PyData := .tuple [.int s.guess, .int s.corr, .bool s.rest, .int s.dig]
theorem StpsAt.dp {H : Hp} {ts : List Addr} {st : List Ar.Stp} (h : StpsAt H ts st) : DpAll K H (ts.map V.ref) (st.map stpD) := by
  unfold StpsAt at h
  induction h with
  | nil => exact .nil
  | cons a _ ih => exact .cons (.tup (SqT.of a) (.cons (.int _) (.cons (.int _) (.cons (.bl _) (.cons (.int _) .nil))))) ih
theorem st_lay : ∀ st : List Ar.Stp, PyData.canLayAll0 (st.map stpD) = true
  | [] => rfl
  | _ :: r => by simp [PyData.canLayAll0, PyData.canLay0, stpD, st_lay r]
theorem st_depth : ∀ st : List Ar.Stp, PyData.depthAll (st.map stpD) ≤ 1
  | [] => by simp [PyData.depthAll]
  | _ :: r => by
    have := st_depth r
    simp [PyData.depthAll, PyData.depth, stpD]
    omega
theorem st_shaped (st : List Ar.Stp) : SeqAt.shaped (.list (st.map stpD)) = true := by
  have := st_depth st
  simp [SeqAt.shaped, PyData.canLay0, PyData.depth, st_lay]
  omega
theorem st_eqv (st : List Ar.Stp) : PyData.eqv (.list (st.map stpD)) (.list (st.map stpD)) = true := SeqAt.eqv_refl _ (by simp [PyData.canLay0, st_lay])
theorem smshl {a : Int} {e : Nat} (h0 : 0 ≤ a) (h1 : a < 2 ^ 460) (he : e ≤ 900) : Sm (a * 2 ^ e) := by
  apply abs_lt'
  have p := pwp e
  rw [Int.natAbs_of_nonneg (Int.mul_nonneg h0 (Int.le_of_lt p))]
  have a1 : a * 2 ^ e < 2 ^ 460 * 2 ^ e := Int.mul_lt_mul_of_pos_right h1 p
  rw [← Int.pow_add] at a1
  exact Int.lt_of_lt_of_le a1 (pw_mono (by omega))
theorem Go.src {p cA eA m : Addr} {w : Nat} {H H1 : Hp} (g : Go cA eA H H1) (M : Mach K H m cA eA w) (s : Src H p) (hp : p ≠ eA) : Src H1 p := by
  obtain ⟨a, b, c, e⟩ := s
  exact ⟨a, b, c, g.lst M e hp⟩
/-- since H: the source drawn from, the machine used -/
structure Wk (K : PySem.W.Frag) (p m cA eA : Addr) (w : Nat) (H H' : Hp) : Prop where
  pe : p ≠ eA
  b : But3 p cA eA H H'
  M : Mach K H' m cA eA w
  s : Src H' p
theorem Wk.refl {p m cA eA : Addr} {w : Nat} {H : Hp} (pe : p ≠ eA) (M : Mach K H m cA eA w) (s : Src H p) : Wk K p m cA eA w H H := ⟨pe, fun _ _ e _ _ _ => e, M, s⟩
theorem Wk.same {p m cA eA : Addr} {w : Nat} {H H1 H2 : Hp} (k : Wk K p m cA eA w H H1) (s : Same H1 H2) : Wk K p m cA eA w H H2 := ⟨k.pe, k.b.trans (But3.go (Same.go s)), k.M.same s, k.s.same s⟩
theorem Wk.go {p m cA eA : Addr} {w : Nat} {H H1 H2 : Hp} (k : Wk K p m cA eA w H H1) (g : Go cA eA H1 H2) (M : Mach K H2 m cA eA w) : Wk K p m cA eA w H H2 := ⟨k.pe, k.b.trans (But3.go g), M, Go.src g k.M k.s k.pe⟩
theorem Wk.but {p m cA eA : Addr} {w : Nat} {H H1 H2 : Hp} (k : Wk K p m cA eA w H H1) (g : But p H1 H2) (s : Src H2 p) : Wk K p m cA eA w H H2 := by
  obtain ⟨xs, e⟩ := k.s.at
  exact ⟨k.pe, k.b.trans (But3.of g), g.mach k.M e k.pe, s⟩
theorem Wk.trans {p m cA eA : Addr} {w : Nat} {H H1 H2 : Hp} (k : Wk K p m cA eA w H H1) (k2 : Wk K p m cA eA w H1 H2) : Wk K p m cA eA w H H2 := ⟨k.pe, k.b.trans k2.b, k2.M, k2.s⟩
/-- a list of steps that is none of the source's, none of the machine's -/
structure StL (p eA ps : Addr) (ts : List Addr) (st : List Ar.Stp) (H : Hp) : Prop where
  np : ps ≠ p
  ne : ps ≠ eA
  l : H ps = some (.lst (ts.map V.ref))
  st : StpsAt H ts st
theorem StL.wk {p m cA eA ps : Addr} {w : Nat} {ts : List Addr} {st : List Ar.Stp} {H H' : Hp} (L : StL p eA ps ts st H) (M : Mach K H m cA eA w) (s : Src H p) (k : Wk K p m cA eA w H H') : StL p eA ps ts st H' := by
  obtain ⟨xs, e⟩ := s.at
  exact ⟨L.np, L.ne, k.b.lst M L.np L.ne L.l, L.st.mono fun t xs h => k.b.tup M e h⟩
theorem StL.same {p eA ps : Addr} {ts : List Addr} {st : List Ar.Stp} {H H' : Hp} (L : StL p eA ps ts st H) (s : Same H H') : StL p eA ps ts st H' := ⟨L.np, L.ne, s _ _ L.l, L.st.mono fun t xs h => s _ _ h⟩
theorem StL.dp {p eA ps : Addr} {ts : List Addr} {st : List Ar.Stp} {H : Hp} (L : StL p eA ps ts st H) : Dp K H (.ref ps) (.list (st.map stpD)) := .lst (SqL.of L.l) L.st.dp
theorem StL.of {p eA ps : Addr} {ts : List Addr} {st : List Ar.Stp} {H : Hp} (s : Src H p) (l : H ps = some (.lst (ts.map V.ref))) (ne : ps ≠ eA) (h : StpsAt H ts st) : StL p eA ps ts st H := by
  refine ⟨fun z => ?_, ne, l, h⟩
  obtain ⟨a, b, c, e⟩ := s
  rw [z, e] at l
  cases ts with
  | nil => cases l
  | cons t r => cases l
theorem okl {w : Nat} {x y z : Int} {la lb : List Int} (hB1 : (1 : Int) < 2 ^ w) (hx : 0 ≤ x) (hz : (z.natAbs : Int) = y) (ha : Ar.Row ((2 : Int) ^ w) la x) (hb : Ar.Row ((2 : Int) ^ w) lb y) (h2 : 2 ≤ lb.length) (hl : Ar.belowB la lb = false) : OkLong w x z := fun la' lb' ha' hb' => by
  rw [Int.natAbs_of_nonneg hx] at ha'
  rw [hz] at hb'
  obtain rfl := ha.uniq hB1 ha'
  obtain rfl := hb.uniq hB1 hb'
  exact ⟨h2, hl⟩
theorem abs0 {b : Int} (h : 0 < b) : ((0 - b).natAbs : Int) = b := by omega
theorem lt_bits {b : Int} (h : 0 < b) {n e : Nat} (he : Builtin.Int.intBits b + e ≤ n) : b * 2 ^ e < 2 ^ n := by
  have ek : Builtin.Int.intBits b = b.natAbs.log2 + 1 := by
    unfold Builtin.Int.intBits
    rw [if_neg (by simp; omega)]
  have k : b.natAbs < 2 ^ (b.natAbs.log2 + 1) := Nat.lt_log2_self
  rw [← ek] at k
  have k2 := abs_lt k
  rw [Int.natAbs_of_nonneg (Int.le_of_lt h)] at k2
  have k3 : b * 2 ^ e < 2 ^ Builtin.Int.intBits b * 2 ^ e := Int.mul_lt_mul_of_pos_right k2 (pwp e)
  rw [← Int.pow_add] at k3
  exact Int.lt_of_lt_of_le k3 (pw_mono he)
theorem bits_le {b : Int} (h : 0 ≤ b) {n : Nat} (hb : b < 2 ^ n) : Builtin.Int.intBits b ≤ n := PyProof.Rows.intBits_le (abs_lt' (by rw [Int.natAbs_of_nonneg h]; exact hb))
def spLWalksRight (K : PySem.W.Frag) : Sp := fun vs H Q _ => ∃ (p m cA eA : Addr) (w : Nat) (a b : Int), vs = [.ref p, .ref m, .int a, .int b] ∧ Mach K H m cA eA w ∧ Src H p ∧ p ≠ eA ∧ 0 ≤ a ∧ a < 2 ^ 460 ∧ 0 < b ∧ b < 2 ^ 190 ∧ ∀ H', Wk K p m cA eA w H H' → Q (.bl true) H'
theorem ok_Lwalks_right (T : Tx K mg) : Fn P wd K mg base 6 "_law_walks_right" pLWalksRight (spLWalksRight K) := by
  have G_big : Fn P wd K mg base 5 "big" pBig (spBigOf K) := ok_big T
  have G_parts : Mt P wd K mg base 1 (cM K) "parts" pMParts (spMParts K) := ok_parts T
  have G_long_walk : Fn P wd K mg base 4 "long_walk" pLongWalk (spLongWalk K) := ok_long_walk T
  have G_Lrow : Fn P wd K mg base 1 "_law_row" pLRow spLRow := ok_Lrow T
  have G_Lis_below : Fn P wd K mg base 2 "_law_is_below" pLIsBelow spLIsBelow := ok_Lis_below T
  have G_Ldraw : Fn P wd K mg base 1 "_law_draw" pLDraw spLDraw := ok_Ldraw T
  refine T.d_Lwalks_right.ok scLWalksRight (fun vs H Q E h => ?_) (fun f cdv A outer s0 H vs Q E hr h => ?_)
  · obtain ⟨p, m, cA, eA, w, a, b, rfl, _⟩ := h
    rfl
  · obtain ⟨p, m, cA, eA, w, a, b, rfl, M, s, pe, a0, a1, b0, b1, q⟩ := h
    have h8 := M.w8
    have h30 := M.w30
    have hB := pwp w
    have hB2 := pw8 h8
    have hB1 : (1 : Int) < 2 ^ w := by omega
    have b2 : b < 2 ^ 460 := Int.lt_trans b1 (by have : (2 : Int) ^ 190 < 2 ^ 460 := by decide +kernel
                                                 exact this)
    have sa : Sm a := by
      have := smshl (e := 0) a0 a1 (by omega)
      rwa [Int.pow_zero, Int.mul_one] at this
    have sb : Sm b := by
      have := smshl (e := 0) (Int.le_of_lt b0) b2 (by omega)
      rwa [Int.pow_zero, Int.mul_one] at this
    obtain ⟨dm, lim, h1⟩ := M.ob
    refine ⟨_, (pss_cons (ps_set (i := 4) scLWalksRight.nd rfl (.inl rfl) (pe_ix ix_tup (pe_mt0 G_parts (hr.mono (by decide)) (pv 1)) pe_int (fun _ _ => rfl)))
        (pss_cons (ps_if (PW.pt (pw_or (pt_cmpR op_lt (pe_callB call_len_seq (by rfl) T.z_len PySem.boot_len (pa_cons (pe_fn G_Lrow (hr.mono (by decide)) (pa_cons (pv 3) (pa_cons (pv 4) pa_nil))) pa_nil)) pe_int (nomark _)) (pw_or1 (pt_val (pe_fn G_Lis_below (hr.mono (by decide)) (pa_cons (pv 2) (pa_cons (pv 3) (pa_cons (pv 4) pa_nil)))))))) (pss_one (ps_ret pe_bl)) pss_nil)
        (pss_cons (ps_set (i := 5) scLWalksRight.nd rfl (.inl rfl) (pe_fn G_long_walk (hr.mono (by decide)) (pa_cons (pv 1) (pa_cons (pe_fn G_big (hr.mono (by decide)) (pa_cons (pv 1) (pa_cons (pv 2) pa_nil))) (pa_cons (pe_fn G_big (hr.mono (by decide)) (pa_cons (pv 1) (pa_cons (pe_op op_sub pe_int (pv 3)) pa_nil))) pa_nil)))))
        (pss_cons (ps_set (i := 6) scLWalksRight.nd rfl (.inl rfl) (pe_fn G_Ldraw (hr.mono (by decide)) (pa_cons (pv 0) (pa_cons (pe_op op_add (pe_op op_sub (pe_op op_mul (pv 4) (pe_callB call_len_seq (by rfl) T.z_len PySem.boot_len (pa_cons (pe_fn G_Lrow (hr.mono (by decide)) (pa_cons (pv 3) (pa_cons (pv 4) pa_nil))) pa_nil))) (pe_bits (pv 3))) pe_int) pa_nil))))
        (C8.pss_cut (ps_if (pt_val (pe_fn G_Lis_below (hr.mono (by decide)) (pa_cons (pe_op op_shlN (pv 2) (pv 6)) (pa_cons (pe_op op_shlN (pv 3) (pv 6)) (pa_cons (pv 4) pa_nil))))) (pss_one (ps_if (pt_cmpR (op_neD hr.units) (pv 5) (pe_lst pa_nil) (nomark _)) (pss_one (ps_ret pe_bl)) pss_nil)) (pss_one (ps_if (pt_cmpR (op_neD hr.units) (pe_fn G_long_walk (hr.mono (by decide)) (pa_cons (pv 1) (pa_cons (pe_fn G_big (hr.mono (by decide)) (pa_cons (pv 1) (pa_cons (pe_op op_shlN (pv 2) (pv 6)) pa_nil))) (pa_cons (pe_fn G_big (hr.mono (by decide)) (pa_cons (pv 1) (pa_cons (pe_op op_shlN (pv 3) (pv 6)) pa_nil))) pa_nil)))) (pv 5) (nomark _)) (pss_one (ps_ret pe_bl)) pss_nil)))
        (pss_cons (ps_set (i := 7) scLWalksRight.nd rfl (.inl rfl) (pe_op op_mul (pv 4) (pe_op op_add pe_int (pe_fn G_Ldraw (hr.mono (by decide)) (pa_cons (pv 0) (pa_cons pe_int pa_nil))))))
        (pss_one (ps_ret (pe_cmpR (op_eqD hr.units) (pe_fn G_long_walk (hr.mono (by decide)) (pa_cons (pv 1) (pa_cons (pe_fn G_big (hr.mono (by decide)) (pa_cons (pv 1) (pa_cons (pe_op op_shlN (pv 2) (pv 7)) pa_nil))) (pa_cons (pe_fn G_big (hr.mono (by decide)) (pa_cons (pv 1) (pa_cons (pe_op op_shlN (pv 3) (pv 7)) pa_nil))) pa_nil)))) (pv 5) (nomark _)))))))))), ?_⟩
    refine ⟨_, rfl, m, dm, _, rfl, h1, mf_parts, m, cA, eA, w, rfl, M, fun lim t nt => ⟨t, _, 0, .int (w : Int), rfl, rfl, SqT.of upd_same, atI_nat (j := 0) rfl, ?_⟩⟩
    have k1 := (Wk.refl pe M s).same (Same.new (o := .tup [.int (w : Int), .int lim]) nt)
    generalize upd H t (.tup [.int (w : Int), .int lim]) = H1 at k1
    refine ⟨_, rfl, _, rfl, b, w, rfl, Int.le_of_lt b0, sb, h8, h30, fun H2 t2 lb s2 nt2 ht2 Rb => ⟨t2, _, rfl, .inl (SqL.of ht2), _, _, rfl, rfl, _, rfl, ite2 (fun _ => ?_) (fun hn => ?_)⟩⟩
    · exact ite2 (fun _ => q H2 (k1.same s2)) (fun z => absurd rfl z)
    rw [List.length_map] at hn
    have hn : 2 ≤ lb.length := by
      have : ¬ (lb.length : Int) < 2 := fun z => hn (decide_eq_true z)
      omega
    refine ⟨_, rfl, _, rfl, _, rfl, a, b, w, rfl, a0, b0, sa, sb, h8, h30, fun H3 la lb' s3 Ra Rb' => ⟨_, rfl, ite2 (fun _ => ?_) (fun hbl => ?_)⟩⟩
    · exact q H3 ((k1.same s2).same s3)
    obtain rfl := Rb.uniq hB1 Rb'
    have hbl : Ar.belowB la lb = false := by
      cases z : Ar.belowB la lb with
      | true => exact absurd z hbl
      | false => rfl
    have k3 := (k1.same s2).same s3
    have hlen := row_len h8 Rb b1
    have hwn : w * lb.length ≤ 30 * 24 := Nat.mul_le_mul h30 (by omega)
    have ha0 : a ≠ 0 := fun z => by
      rw [z] at Ra
      have := Ra.zero hB
      rw [this] at hbl
      have := Ar.not_below hbl
      rw [List.length_nil] at this
      omega
    have sb' : Sm (0 - b) := by
      unfold Sm
      rw [Int.zero_sub, Int.natAbs_neg]
      exact sb
    refine ⟨_, rfl, _, rfl, _, rfl, m, cA, eA, w, a, rfl, k3.M, sa, fun H4 x s4 B4 => ⟨_, rfl, _, rfl, _, _, rfl, rfl, m, cA, eA, w, 0 - b, rfl, k3.M.same s4, sb', fun H5 y s5 B5 => ?_⟩⟩
    have k5 := (k3.same s4).same s5
    refine ⟨m, cA, eA, x, y, w, a, 0 - b, rfl, k5.M, B4.same s5, B5, sa, sb', okl hB1 a0 (abs0 b0) Ra Rb hn hbl, fun H6 ps ts st g6 M6 hps hpe hst hsl hL => ?_⟩
    have k6 := k5.go g6 M6
    have L6 : StL p eA ps ts st H6 := StL.of k6.s hps hpe hst
    have hL := hL lb (by rw [abs0 b0]; exact Rb)
    rw [abs0 b0, Int.natAbs_of_nonneg a0] at hL
    clear hps hst
    refine ⟨_, rfl, _, rfl, _, rfl, _, rfl, b, w, rfl, Int.le_of_lt b0, sb, h8, h30, fun H7 t7 lb7 s7 nt7 ht7 Rb7 => ?_⟩
    obtain rfl := Rb.uniq hB1 Rb7
    have bb : Builtin.Int.intBits b ≤ w * lb.length := bits_le (Int.le_of_lt b0) (by rw [← pw_pw]; exact Rb.lt hB)
    have emul : (w : Int) * (((lb.map V.int).length : Nat) : Int) = ((w * lb.length : Nat) : Int) := by rw [List.length_map, Int.natCast_mul]
    have k7 := k6.same s7
    refine ⟨t7, _, rfl, .inl (SqL.of ht7), _, _, rfl, rfl, .inl ⟨by omega, by omega⟩, _, rfl, b, rfl, _, _, rfl, rfl, _, _, rfl, rfl, ?_⟩
    refine ⟨p, _, rfl, k7.s, by rw [emul]; omega, by rw [emul]; have e40 : (2 : Int) ^ 40 = 1099511627776 := by decide
                                                     omega, fun H8 e b8 s8 he => ?_⟩
    rw [emul] at he
    have he2 : Builtin.Int.intBits b + e ≤ w * lb.length := by omega
    have k8 := k7.but b8 s8
    have L8 := L6.wk k6.M k6.s (((Wk.refl pe k6.M k6.s).same s7).but b8 s8)
    have hye : b * 2 ^ e < ((2 : Int) ^ w) ^ lb.length := by
      rw [pw_pw]
      exact lt_bits b0 he2
    have e900 : e ≤ 900 := by omega
    have sae := smshl a0 a1 e900
    have sbe := smshl (Int.le_of_lt b0) b2 e900
    have ae0 : 0 ≤ a * 2 ^ e := Int.mul_nonneg a0 (Int.le_of_lt (pwp e))
    have be0 : 0 < b * 2 ^ e := Int.mul_pos b0 (pwp e)
    have sh1 : CShl a (e : Int) := shl_ok (n := 4000) sa (by omega)
    have sh2 : CShl b (e : Int) := shl_ok (n := 4000) sb (by omega)
    refine ⟨fun σ' H' => σ' = [some (.ref p), some (.ref m), some (.int a), some (.int b), some (.int (w : Int)), some (.ref ps), some (.int (e : Int)), none] ∧ Wk K p m cA eA w H H' ∧ StL p eA ps ts st H', ?_, ?_⟩
    · refine ⟨_, rfl, _, rfl, a, e, rfl, rfl, sh1, _, rfl, _, rfl, b, e, rfl, rfl, sh2, _, rfl, a * 2 ^ e, b * 2 ^ e, w, rfl, ae0, be0, sae, sbe, h8, h30, fun H9 la9 lb9 s9 Ra9 Rb9 => ⟨_, rfl, ite2 (fun hb9 => ?_) (fun hb9 => ?_)⟩⟩
      all_goals have hl9 := Ar.len_up (by omega) b0 Rb Rb9 hye
      · have st0 := hL.below (by omega) hye b0 Ra9 Rb9 hl9 hb9
        subst st0
        have L9 := L8.same s9
        refine ⟨_, rfl, Nat.zero_le _, fun u nu => ?_⟩
        have su : Same H9 (upd H9 u (.lst [])) := Same.new nu
        refine ⟨_, _, (L9.same su).dp, .lst (SqL.of upd_same) .nil, rfl, rfl, _, rfl, ?_⟩
        exact orF rfl ⟨rfl, (k8.same s9).same su, L9.same su⟩
      · have hb9 : Ar.belowB la9 lb9 = false := by
          cases z : Ar.belowB la9 lb9 with
          | true => exact absurd z hb9
          | false => rfl
        have k9 := k8.same s9
        have L9 := L8.same s9
        refine ⟨_, rfl, _, rfl, _, rfl, _, rfl, a, e, rfl, rfl, sh1, m, cA, eA, w, a * 2 ^ e, rfl, k9.M, sae, fun H10 x10 s10 B10 => ?_⟩
        refine ⟨_, rfl, _, rfl, _, rfl, b, e, rfl, rfl, sh2, m, cA, eA, w, b * 2 ^ e, rfl, k9.M.same s10, sbe, fun H11 y11 s11 B11 => ?_⟩
        have k11 := (k9.same s10).same s11
        refine ⟨m, cA, eA, x10, y11, w, _, _, rfl, k11.M, B10.same s11, B11, sae, sbe, okl hB1 ae0 (Int.natAbs_of_nonneg (Int.le_of_lt be0)) Ra9 Rb9 (by omega) hb9, fun H12 pt tt st2 g12 M12 hpt hpte hst2 hsl2 hL2 => ?_⟩
        have hL2 := hL2 lb9 (by rw [Int.natAbs_of_nonneg (Int.le_of_lt be0)]; exact Rb9)
        rw [Int.natAbs_of_nonneg (Int.le_of_lt be0), Int.natAbs_of_nonneg ae0, hl9] at hL2
        obtain rfl := Ar.Long.uniq (by omega) hL2 (hL.up hye)
        have k12 := k11.go g12 M12
        have L12 := ((L9.same s10).same s11).wk k11.M k11.s ((Wk.refl pe k11.M k11.s).go g12 M12)
        have L12t : StL p eA pt tt st2 H12 := StL.of k12.s hpt hpte hst2
        refine ⟨_, rfl, _, _, L12t.dp, L12.dp, st_shaped _, st_shaped _, _, rfl, ?_⟩
        exact orF (by rw [st_eqv]; rfl) ⟨rfl, k12, L12⟩
    · rintro σ' H' ⟨rfl, k9, L9⟩
      refine ⟨_, rfl, _, rfl, p, 3, rfl, k9.s, by decide, by decide, fun H10 d b10 s10 hd => ⟨_, _, rfl, rfl, _, _, rfl, rfl, .inl ⟨by omega, by omega⟩, ?_⟩⟩
      have k10 := k9.but b10 s10
      have L10 := L9.wk k9.M k9.s ((Wk.refl pe k9.M k9.s).but b10 s10)
      have et : (w : Int) * (1 + (d : Int)) = ((w * (1 + d) : Nat) : Int) := by
        rw [Int.natCast_mul, Int.natCast_add]
        rfl
      have hwt : w * (1 + d) ≤ 30 * 3 := Nat.mul_le_mul h30 (by omega)
      have hd1 : 0 < 1 + d := by omega
      generalize htd : 1 + d = t at et hwt hd1
      have st1 := smshl (e := w * t) a0 a1 (by omega)
      have st2 := smshl (e := w * t) (Int.le_of_lt b0) b2 (by omega)
      have c1 : CShl a ((w * t : Nat) : Int) := shl_ok (n := 4000) sa (by omega)
      have c2 : CShl b ((w * t : Nat) : Int) := shl_ok (n := 4000) sb (by omega)
      have at0 : 0 ≤ a * 2 ^ (w * t) := Int.mul_nonneg a0 (Int.le_of_lt (pwp _))
      have bt0 : 0 < b * 2 ^ (w * t) := Int.mul_pos b0 (pwp _)
      have Rat := Ra.shift hB ha0 t
      have Rbt := Rb.shift hB (by omega) t
      have hbt := Ar.below_shift hB Ra Rb (by omega) ha0 t hbl
      rw [pw_pw] at Rat Rbt
      refine ⟨_, rfl, _, rfl, _, rfl, _, rfl, a, w * t, rfl, congrArg V.int et, c1, m, cA, eA, w, a * 2 ^ (w * t), rfl, k10.M, st1, fun H11 x11 s11 B11 => ?_⟩
      refine ⟨_, rfl, _, rfl, _, rfl, b, w * t, rfl, congrArg V.int et, c2, m, cA, eA, w, b * 2 ^ (w * t), rfl, k10.M.same s11, st2, fun H12 y12 s12 B12 => ?_⟩
      have k12 := (k10.same s11).same s12
      refine ⟨m, cA, eA, x11, y12, w, _, _, rfl, k12.M, B11.same s12, B12, st1, st2, okl hB1 at0 (Int.natAbs_of_nonneg (Int.le_of_lt bt0)) Rat Rbt (by rw [List.length_append]; omega) hbt, fun H13 pt tt st3 g13 M13 hpt hpte hst3 hsl3 hL3 => ?_⟩
      have hL3 := hL3 _ (by rw [Int.natAbs_of_nonneg (Int.le_of_lt bt0)]; exact Rbt)
      rw [Int.natAbs_of_nonneg (Int.le_of_lt bt0), Int.natAbs_of_nonneg at0, List.length_append, List.length_replicate, Nat.add_comm t] at hL3
      have hLs := hL.shift (t := t)
      rw [pw_pw] at hLs
      obtain rfl := Ar.Long.uniq (by omega) hL3 hLs
      have k13 := k12.go g13 M13
      have L13 := ((L10.same s11).same s12).wk k12.M k12.s ((Wk.refl pe k12.M k12.s).go g13 M13)
      have L13t : StL p eA pt tt st3 H13 := StL.of k13.s hpt hpte hst3
      refine ⟨_, rfl, _, _, L13t.dp, L13.dp, st_shaped _, st_shaped _, ?_⟩
      rw [st_eqv]
      exact q H13 k13
end Tb
set_option Elab.async false
set_option linter.all false
set_option maxRecDepth 100000
set_option maxHeartbeats 4000000
set_option exponentiation.threshold 4001
/-! the law -/
namespace Tb
open PySem PySem.Spec PyProof PyProof.Rows L2
variable {P : Program} {wd : World} {K : PySem.W.Frag} {mg : Str → Option Value} {base : Heap}
/-- list + list, the left one may be an argument of the top's -/
theorem op_catS {X : Cx} : OpR X (binaryOp .Add) (fun x y H Q => ∃ (l b : Addr) (xs zs : List V), x = .ref l ∧ y = .ref b ∧ SqL X.K H l xs ∧ H b = some (.lst zs) ∧ xs.length + zs.length ≤ sizeLine ∧ ∀ p, H p = none → Q (.ref p) (upd H p (.lst (xs ++ zs)))) := by
  intro pins s σ H x y v u Q I rx ry h
  obtain ⟨l, b, xs, zs, rfl, rfl, hH, hB, hz, q⟩ := h
  cases rx
  cases ry
  obtain ⟨its, r, ⟨o, n, ho, hc, hd, hs⟩, _⟩ := I.list hH
  have hl := r.length
  obtain ⟨z2, its2, n2, r2, hl2, e2⟩ := I.lstM hB
  obtain ⟨c, dd, dt, sl⟩ := o
  dsimp only at hc hd hs
  subst hc
  subst hd
  subst hs
  have hsz : its.toArray.size + its2.toArray.size ≤ sizeLine := by
    rw [List.size_toArray, List.size_toArray]
    omega
  refine concat_meets ⟨_, ho, rfl⟩ ⟨_, e2, rfl⟩ noFill_list_add seq_list_add PySem.F.slot_list_add PySem.F.entry_list_add (PySem.F.args_list_add_2 _ _) (list_addW l b its.toArray its2.toArray n n2 none none sl #[] hsz) ⟨ho, e2, ?_⟩
  have ea : its.toArray ++ its2.toArray = (its ++ its2).toArray := by simp
  rw [ea]
  exact ⟨.ref _, _, I.lnew (t' := s.toks) (r.append r2) (by rw [List.length_append]; omega), rfl, q _ I.fresh⟩
theorem cut_int {ns : List Int} {lo hi : Option Int} {i : Nat} {y : V} (h : (cutV (ns.map V.int) lo hi)[i]? = some y) : ∃ c : Int, y = .int c := by
  have m := List.mem_of_getElem? h
  unfold cutV at m
  have m2 := List.mem_of_mem_drop (List.mem_of_mem_take m)
  obtain ⟨c, _, e⟩ := List.mem_map.mp m2
  exact ⟨c, e.symm⟩
/-- what was there before the source and the machine is as it was -/
theorem Wk.keeps {p m cA eA : Addr} {w : Nat} {H0 H1 H2 : Hp} (s : Same H0 H1) (np : H0 p = none) (nc : H0 cA = none) (ne : H0 eA = none) (k : Wk K p m cA eA w H1 H2) : Same H0 H2 := fun b o e => k.b b o (s b o e) (ne_of_none e np) (ne_of_none e nc) (ne_of_none e ne)
theorem sgn_abs {a k : Int} {n : Nat} (h0 : 0 ≤ a) (h1 : a < 2 ^ n) (h : k = a ∨ k = -a) : k.natAbs < 2 ^ n := by
  apply abs_lt'
  rcases h with rfl | rfl
  · rw [Int.natAbs_of_nonneg h0]
    exact h1
  · rw [Int.natAbs_neg, Int.natAbs_of_nonneg h0]
    exact h1
def spLaw (K : PySem.W.Frag) : Sp := fun vs H Q _ => ∃ (a : Addr) (ns : List Int), vs = [.ref a] ∧ ns.length ≤ 63 ∧ SqL K H a (ns.map V.int) ∧ ∀ H', Q (.bl true) H'
theorem ok_law (T : Tx K mg) {f : Addr} {fd : FuncData} (F : FunD K "law" "law" (defArgs sLaw) (defBody sLaw) (defScope sLaw) [] [] f fd) : FnOk P wd K mg base CX0 10 f fd pLaw (spLaw K) := by
  have G_Lsource : Fn P wd K mg base 1 "_law_source" pLSource spLSource := ok_Lsource T
  have G_Lbox : Fn P wd K mg base 5 "_law_box" pLBox (spLBox K) := ok_Lbox T
  have G_Lpair : Fn P wd K mg base 4 "_law_pair" pLPair spLPair := ok_Lpair T
  have G_Lsigned : Fn P wd K mg base 2 "_law_signed" pLSigned spLSigned := ok_Lsigned T
  have G_Lright : Fn P wd K mg base 9 "_law_right" pLRight (spLRight K) := ok_Lright T
  have G_Lwalks_right : Fn P wd K mg base 6 "_law_walks_right" pLWalksRight (spLWalksRight K) := ok_Lwalks_right T
  have G_parts : Mt P wd K mg base 1 (cM K) "parts" pMParts (spMParts K) := ok_parts T
  have G_Machine : Mkd P wd K mg base 3 (cM K) "Machine" pMInit [.int 70] (spMInit K) := mkd_M1 T
  have G_Machine0 : Mkd P wd K mg base 3 (cM K) "Machine" pMInit [.int 30, .int 70] (spMInit K) := mkd_M0 T
  refine F.ok scLaw (fun vs H Q E h => ?_) (fun cdv A outer s0 H vs Q E hr h => ?_)
  · obtain ⟨a, ns, rfl, _⟩ := h
    rfl
  · obtain ⟨a, ns, rfl, hlen, hS, q⟩ := h
    refine ⟨_, PSs.nox (pss_cons (ps_for PassesOwn.never rfl (pi_list (pe_slice sl_list (pe_op op_catS (pv 0) (pe_lst (pa_cons pe_int pa_nil))) po_none (po_some pe_int))) (pg_name (i := 1) scLaw.nd rfl (.inl rfl)) (pss_cons (ps_set (i := 2) scLaw.nd rfl (.inl rfl) (pe_fn G_Lsource (hr.mono (by decide)) (pa_cons (pv 1) pa_nil)))
        (pss_cons (ps_set (i := 3) scLaw.nd rfl (.inl rfl) (pe_fn G_Lbox (hr.mono (by decide)) (pa_cons (pv 2) pa_nil)))
        (pss_one (ps_for PassesOwn.never rfl (pi_range1 (by rfl) T.z_range (pa_cons pe_int pa_nil)) (pg_name (i := 4) scLaw.nd rfl (.inl rfl)) (pss_cons (ps_asg (pe_fn G_Lpair (hr.mono (by decide)) (pa_cons (pv 2) (pa_cons (pe_ix ix_tup (pe_mt0 G_parts (hr.mono (by decide)) (pv 3)) pe_int (fun _ _ => rfl)) pa_nil))) (pg_tup (by rfl) (pgs_cons (pg_name (i := 5) scLaw.nd rfl (.inl rfl)) (pgs_cons (pg_name (i := 6) scLaw.nd rfl (.inl rfl)) pgs_nil))))
        (pss_cons (ps_if (pt_not (pt_val (pe_fn G_Lright (hr.mono (by decide)) (pa_cons (pv 3) (pa_cons (pe_fn G_Lsigned (hr.mono (by decide)) (pa_cons (pv 2) (pa_cons (pv 5) pa_nil))) (pa_cons (pe_fn G_Lsigned (hr.mono (by decide)) (pa_cons (pv 2) (pa_cons (pv 6) pa_nil))) pa_nil)))))) (pss_one (ps_ret pe_bl)) pss_nil)
        (pss_one (ps_if (pt_not (pt_val (pe_fn G_Lwalks_right (hr.mono (by decide)) (pa_cons (pv 2) (pa_cons (pv 3) (pa_cons (pv 5) (pa_cons (pv 6) pa_nil))))))) (pss_one (ps_ret pe_bl)) pss_nil)))))))))
        (pss_one (ps_ret (pe_and (pe_fn G_Lright (hr.mono (by decide)) (pa_cons (pe_mk0 G_Machine0 (hr.mono (by decide))) (pa_cons pe_int (pa_cons pe_int pa_nil)))) (pe_one (pe_fn G_Lright (hr.mono (by decide)) (pa_cons (pe_mk G_Machine (hr.mono (by decide)) (pa_cons pe_int pa_nil)) (pa_cons (pe_un un_neg pe_int) (pa_cons pe_int pa_nil))))))))), ?_⟩
    refine ⟨_, rfl, by show 1 ≤ sizeLine; decide, fun z nz => ?_⟩
    refine ⟨a, z, ns.map V.int, [.int 0], rfl, rfl, ?_, upd_same, ?_, fun l nl => ?_⟩
    · exact hS.elim (fun e => .inl (e.elim (fun e => .inl (Same.new nz _ _ e)) (fun ⟨o, e⟩ => .inr ⟨o, Same.new nz _ _ e⟩))) .inr
    · rw [List.length_map]
      have e : 64 ≤ sizeLine := by decide
      have e1 : ([V.int 0] : List V).length = 1 := rfl
      omega
    have el : ns.map V.int ++ [V.int 0] = (ns ++ [0]).map V.int := by rw [List.map_append]; rfl
    refine ⟨3, rfl, l, _, rfl, SqL.of upd_same, fun c nc => ?_⟩
    rw [el] at nc ⊢
    generalize hH0 : upd (upd (upd H z (.lst [V.int 0])) l (.lst ((ns ++ [0]).map V.int))) c (.lst (cutV ((ns ++ [0]).map V.int) none (some 3))) = H0
    have hc0 : H0 c = some (.lst (cutV ((ns ++ [0]).map V.int) none (some 3))) := by rw [← hH0]; exact upd_same
    refine ⟨c, rfl, ⟨_, SqL.of hc0⟩, for_list (xs := cutV ((ns ++ [0]).map V.int) none (some 3)) (fun i σ H' => (∃ v1 v2 v3 v4 v5 v6 : Option V, σ = [some (.ref a), v1, v2, v3, v4, v5, v6]) ∧ Same H0 H') ⟨⟨none, none, none, none, none, none, rfl⟩, fun _ _ e => e⟩ (fun i σ H' _ h => SqL.of (h.2 _ _ hc0)) ?_ ?_⟩
    · rintro i x σ H' hx ⟨⟨v1, v2, v3, v4, v5, v6, rfl⟩, s0⟩
      obtain ⟨cv, rfl⟩ := cut_int hx
      refine ⟨_, rfl, cv, rfl, fun H1 p s1 np hs1 => ?_⟩
      refine ⟨_, rfl, p, rfl, hs1, fun H2 m cA eA w b2 hs2 M2 nm ncA neA => ?_⟩
      have hpe : p ≠ eA := by
        obtain ⟨ys, e⟩ := hs1.at
        exact ne_of_none e neA
      have k2 : Wk K p m cA eA w H1 H2 := by
        obtain ⟨ys, e⟩ := hs1.at
        exact ⟨hpe, But3.of b2, M2, hs2⟩
      have keep : ∀ H3, Wk K p m cA eA w H1 H3 → Same H0 H3 := fun H3 k => s0.trans (k.keeps s1 np (s1.free ncA) (s1.free neA))
      refine ⟨4, rfl, by decide, by decide, for_range (n := 4) (fun j σ H' => (∃ v4 v5 v6 : Option V, σ = [some (.ref a), some (.int cv), some (.ref p), some (.ref m), v4, v5, v6]) ∧ Wk K p m cA eA w H1 H') ⟨⟨v4, v5, v6, rfl⟩, k2⟩ ?_ ?_⟩
      · rintro j σ H3 hj ⟨⟨u4, u5, u6, rfl⟩, k3⟩
        obtain ⟨dm, lim, h1⟩ := k3.M.ob
        refine ⟨_, rfl, _, rfl, m, dm, _, rfl, h1, mf_parts, m, cA, eA, w, rfl, k3.M, fun lim t nt => ⟨t, _, 0, .int (w : Int), rfl, rfl, SqT.of upd_same, atI_nat (j := 0) rfl, ?_⟩⟩
        have k4 := k3.same (Same.new (o := .tup [.int (w : Int), .int lim]) nt)
        generalize upd H3 t (.tup [.int (w : Int), .int lim]) = H4 at k4
        refine ⟨p, w, rfl, k4.s, k4.M.w8, k4.M.w30, fun H5 t5 x y b5 s5 ht5 x0 x1 y0 y1 => ⟨t5, _, rfl, SqT.of ht5, rfl, _, _, rfl, _, _, rfl, rfl, ?_⟩⟩
        have k5 := k4.but b5 s5
        refine ⟨_, rfl, _, rfl, _, rfl, p, x, rfl, k5.s, fun H6 xa b6 s6 hxa => ?_⟩
        have k6 := k5.but b6 s6
        refine ⟨_, rfl, _, rfl, p, y, rfl, k6.s, fun H7 yb b7 s7 hyb => ?_⟩
        have k7 := k6.but b7 s7
        refine ⟨m, cA, eA, w, xa, yb, rfl, k7.M, sgn_abs x0 x1 hxa, sgn_abs (Int.le_of_lt y0) (Int.lt_of_lt_of_le y1 (pw_mono (by decide))) hyb, by omega, fun H8 g8 M8 => ⟨_, rfl, ?_⟩⟩
        have k8 := k7.go g8 M8
        refine orF rfl ?_
        refine ⟨_, rfl, _, rfl, _, rfl, _, rfl, p, m, cA, eA, w, x, y, rfl, k8.M, k8.s, hpe, x0, x1, y0, y1, fun H9 k9 => ⟨_, rfl, ?_⟩⟩
        refine orF rfl ?_
        exact ⟨⟨_, _, _, rfl⟩, k8.trans k9⟩
      · rintro σ H3 ⟨⟨u4, u5, u6, rfl⟩, k3⟩
        exact ⟨⟨_, _, _, _, _, _, rfl⟩, keep H3 k3⟩
    · rintro σ H' ⟨⟨v1, v2, v3, v4, v5, v6, rfl⟩, s0⟩
      have small : ∀ x : Int, x.natAbs < 1000 → x.natAbs < 2 ^ 460 := fun x h => Nat.lt_of_lt_of_le h (Nat.le_trans (show 1000 ≤ 2 ^ 10 by decide) (Nat.pow_le_pow_right (by decide) (by decide)))
      refine fun x dx nx ndx nex => ⟨x, dx, 30, 70, rfl, upd_same, by decide, by decide, by decide, by decide, fun H1 cA eA kp M nc ne => ⟨rfl, ?_⟩⟩
      refine ⟨x, cA, eA, 30, 0, 1, rfl, M, small 0 (by decide), small 1 (by decide), by decide, fun H2 g2 M2 => ⟨_, rfl, iteT ?_⟩⟩
      refine fun x3 dx3 nx3 ndx3 nex3 => ⟨x3, dx3, 8, 70, rfl, upd_same, by decide, by decide, by decide, by decide, fun H4 cA4 eA4 kp4 M4 nc4 ne4 => ⟨rfl, ?_⟩⟩
      refine ⟨_, rfl, x3, cA4, eA4, 8, -256, 255, rfl, M4, small (-256) (by decide), small 255 (by decide), by decide, fun H5 g5 M5 => ?_⟩
      exact q H5
end Tb
set_option Elab.async false
set_option linter.all false
set_option maxRecDepth 100000
set_option maxHeartbeats 4000000
/-! what the head run has left -/
namespace Tb
open PySem PySem.Spec PyProof.Rows L2
theorem tx_of {K : PySem.W.Frag} {h : Heap} {mg : Str → Option Value} (X : K.In h) (G : h.Ns mainGlobals mg) (cz : SaysZ K) : Tx K mg := by
  have c : He.SaysD fa fn K := congrArg (fun z : AlZ => z.1) cz
  have e : exB K = true := congrArg (fun z : AlZ => z.2) cz
  obtain ⟨hm, e⟩ := He.ba e
  obtain ⟨hb, hw⟩ := He.ba e
  obtain ⟨fd1, F1⟩ := c.def_ 0 (d := dIsInteger) rfl
  obtain ⟨fd2, F2⟩ := c.def_ 1 (d := dIsBetween) rfl
  obtain ⟨fd3, F3⟩ := c.def_ 2 (d := dCheckInteger) rfl
  obtain ⟨fd4, F4⟩ := c.def_ 7 (d := dCheckMachine) rfl
  obtain ⟨fd5, F5⟩ := c.def_ 9 (d := dMade) rfl
  obtain ⟨fd6, F6⟩ := c.def_ 10 (d := dDigitsOf) rfl
  obtain ⟨fd7, F7⟩ := c.def_ 11 (d := dBigOf) rfl
  obtain ⟨fd8, F8⟩ := c.def_ 12 (d := dValueOf) rfl
  obtain ⟨fd9, F9⟩ := c.def_ 13 (d := dCheckBig) rfl
  obtain ⟨fd10, F10⟩ := c.def_ 14 (d := dCheckBigs) rfl
  obtain ⟨fd11, F11⟩ := c.def_ 15 (d := dCheckAny) rfl
  obtain ⟨fd12, F12⟩ := c.def_ 16 (d := dIsCompact) rfl
  obtain ⟨fd13, F13⟩ := c.def_ 17 (d := dBig) rfl
  obtain ⟨fd14, F14⟩ := c.def_ 18 (d := dPlain) rfl
  obtain ⟨fd15, F15⟩ := c.def_ 19 (d := dLookedDown) rfl
  obtain ⟨fd16, F16⟩ := c.def_ 20 (d := dLifted) rfl
  obtain ⟨fd17, F17⟩ := c.def_ 21 (d := dLowered) rfl
  obtain ⟨fd18, F18⟩ := c.def_ 22 (d := dAdding) rfl
  obtain ⟨fd19, F19⟩ := c.def_ 23 (d := dTaking) rfl
  obtain ⟨fd20, F20⟩ := c.def_ 24 (d := dAdded) rfl
  obtain ⟨fd21, F21⟩ := c.def_ 25 (d := dSubtracted) rfl
  obtain ⟨fd22, F22⟩ := c.def_ 26 (d := dShortDivided) rfl
  obtain ⟨fd23, F23⟩ := c.def_ 27 (d := dShortRest) rfl
  obtain ⟨fd24, F24⟩ := c.def_ 28 (d := dGuessed) rfl
  obtain ⟨fd25, F25⟩ := c.def_ 29 (d := dTakeProduct) rfl
  obtain ⟨fd26, F26⟩ := c.def_ 30 (d := dPutBack) rfl
  obtain ⟨fd27, F27⟩ := c.def_ 31 (d := dQuotientDigit) rfl
  obtain ⟨fd28, F28⟩ := c.def_ 32 (d := dLongSteps) rfl
  obtain ⟨fd29, F29⟩ := c.def_ 33 (d := dLongDivided) rfl
  obtain ⟨fd30, F30⟩ := c.def_ 34 (d := dIsBelow) rfl
  obtain ⟨fd31, F31⟩ := c.def_ 35 (d := dCutOff) rfl
  obtain ⟨fd32, F32⟩ := c.def_ 36 (d := dAreDigits) rfl
  obtain ⟨fd33, F33⟩ := c.def_ 37 (d := dFloored) rfl
  obtain ⟨fd34, F34⟩ := c.def_ 38 (d := dFloorOf) rfl
  obtain ⟨fd35, F35⟩ := c.def_ 39 (d := dRestOf) rfl
  obtain ⟨fd36, F36⟩ := c.def_ 40 (d := dModded) rfl
  obtain ⟨fd37, F37⟩ := c.def_ 41 (d := dTruncated) rfl
  obtain ⟨fd38, F38⟩ := c.def_ 42 (d := dDivideBoth) rfl
  obtain ⟨fd39, F39⟩ := c.def_ 43 (d := dFloorDivide) rfl
  obtain ⟨fd40, F40⟩ := c.def_ 44 (d := dModulo) rfl
  obtain ⟨fd41, F41⟩ := c.def_ 45 (d := dCheckLong) rfl
  obtain ⟨fd42, F42⟩ := c.def_ 46 (d := dLongWalk) rfl
  obtain ⟨fd43, F43⟩ := c.def_ 47 (d := dLSource) rfl
  obtain ⟨fd44, F44⟩ := c.def_ 48 (d := dLDraw) rfl
  obtain ⟨fd45, F45⟩ := c.def_ 49 (d := dLPick) rfl
  obtain ⟨fd46, F46⟩ := c.def_ 50 (d := dLRow) rfl
  obtain ⟨fd47, F47⟩ := c.def_ 51 (d := dLNumber) rfl
  obtain ⟨fd48, F48⟩ := c.def_ 52 (d := dLBox) rfl
  obtain ⟨fd49, F49⟩ := c.def_ 53 (d := dLSigned) rfl
  obtain ⟨fd50, F50⟩ := c.def_ 54 (d := dLIsBelow) rfl
  obtain ⟨fd51, F51⟩ := c.def_ 55 (d := dLPair) rfl
  obtain ⟨fd52, F52⟩ := c.def_ 56 (d := dLValues) rfl
  obtain ⟨fd53, F53⟩ := c.def_ 57 (d := dLRight) rfl
  obtain ⟨fd54, F54⟩ := c.def_ 58 (d := dLWalksRight) rfl
  obtain ⟨fd55, F55⟩ := c.def_ 59 (d := dLaw) rfl
  obtain ⟨fd56, F56⟩ := c.def_ 5 (d := dMCount) rfl
  obtain ⟨fd57, F57⟩ := c.def_ 6 (d := dMEnter) rfl
  obtain ⟨fd58, F58⟩ := c.def_ 4 (d := dMParts) rfl
  obtain ⟨fd59, F59⟩ := c.def_ 3 (d := dMInit) rfl
  have b3 := F59.binds1 (ps := pMInit) 3 2 (List.cons_ne_nil _ _) rfl fun T kV doc pm an cdv ct us its h1 h2 => match us, its, h1, h2 with | [_, _, _], [_, _], _, _ => ⟨_, rfl, rfl⟩
  have b2 := F59.binds1 (ps := pMInit) 2 1 (List.cons_ne_nil _ _) rfl fun T kV doc pm an cdv ct us its h1 h2 => match us, its, h1, h2 with | [_, _], [_, _], _, _ => ⟨_, rfl, rfl⟩
  have b1 := F59.binds1 (ps := pMInit) 1 0 (List.cons_ne_nil _ _) rfl fun T kV doc pm an cdv ct us its h1 h2 => match us, its, h1, h2 with | [_], [_, _], _, _ => ⟨_, rfl, rfl⟩
  have b30 : Binds K fd59 pMInit [] := by
    obtain ⟨ds, hv, hb⟩ := b3
    cases hv
    exact hb
  obtain ⟨fd60, F60⟩ := c.def_ 8 (d := dBInit) rfl
  refine ⟨?_,
    ?_,
    ?_,
    ?_,
    ?_,
    ?_,
    ?_,
    ?_,
    ?_,
    ?_,
    ?_,
    ?_,
    ?_,
    ?_,
    ?_,
    ?_,
    ?_,
    ?_,
    ?_,
    ?_,
    ?_,
    ?_,
    ?_,
    ?_,
    ?_,
    ?_,
    ?_,
    ?_,
    ?_,
    ?_,
    ?_,
    ?_,
    ?_,
    ?_,
    ?_,
    ?_,
    ?_,
    ?_,
    ?_,
    ?_,
    ?_,
    ?_,
    ?_,
    ?_,
    ?_,
    ?_,
    ?_,
    ?_,
    ?_,
    ?_,
    ?_,
    ?_,
    ?_,
    ?_,
    ?_,
    ?_,
    ?_,
    ?_,
    ?_,
    ?_,
    ?_,
    ?_,
    ?_,
    ?_,
    ?_,
    ?_,
    ?_,
    ?_,
    ?_,
    ?_,
    ?_,
    ?_,
    ?_,
    ?_,
    ?_,
    ?_,
    ?_,
    ?_,
    ?_,
    ?_,
    ?_,
    ?_,
    ?_,
    ?_,
    ?_,
    ?_,
    ?_,
    ?_,
    ?_,
    ?_,
    ?_⟩
  · exact He.free_ok X G (c.fact 62 (f := .free "isinstance") rfl)
  · exact He.free_ok X G (c.fact 63 (f := .free "int") rfl)
  · exact He.free_ok X G (c.fact 64 (f := .free "bool") rfl)
  · exact He.free_ok X G (c.fact 65 (f := .free "len") rfl)
  · exact He.free_ok X G (c.fact 66 (f := .free "range") rfl)
  · exact He.free_ok X G (c.fact 67 (f := .free "divmod") rfl)
  · exact He.free_ok X G (c.fact 68 (f := .free "abs") rfl)
  · exact He.free_ok X G (c.fact 69 (f := .free "max") rfl)
  · exact He.free_ok X G (c.fact 70 (f := .free "enumerate") rfl)
  · exact He.free_ok X G (c.fact 71 (f := .free "tuple") rfl)
  · exact He.free_ok X G (c.fact 72 (f := .free "dict") rfl)
  · exact (by obtain ⟨t, e⟩ := He.int_ok X G (c.fact 58 (f := .int "LEAST_BITS" 8) rfl); exact ⟨_, e, t, rfl⟩)
  · exact (by obtain ⟨t, e⟩ := He.int_ok X G (c.fact 59 (f := .int "MOST_BITS" 30) rfl); exact ⟨_, e, t, rfl⟩)
  · exact (by obtain ⟨t, e⟩ := He.int_ok X G (c.fact 60 (f := .int "MOST_CUTOFF" 1000) rfl); exact ⟨_, e, t, rfl⟩)
  · exact (by obtain ⟨t, e⟩ := He.int_ok X G (c.fact 61 (f := .int "MOST_WALK" 1000) rfl); exact ⟨_, e, t, rfl⟩)
  · exact ⟨_, He.glo_ok X G (c.fact 57 (f := .glo "WORDS") rfl), rfl⟩
  · exact fun H => He.tupB_ok hw H
  · exact ⟨_, He.glo_ok X G (c.fact 55 (f := .glo "Machine") rfl), rfl⟩
  · exact He.cls_ok (c.fact 73 (f := .cls "Machine") rfl)
  · exact insB_ok (He.cls_ok (c.fact 73 (f := .cls "Machine") rfl)) hm
  · exact ⟨_, He.glo_ok X G (c.fact 56 (f := .glo "Big") rfl), rfl⟩
  · exact He.cls_ok (c.fact 74 (f := .cls "Big") rfl)
  · exact insB_ok (He.cls_ok (c.fact 74 (f := .cls "Big") rfl)) hb
  · exact He.noat_ok (c.fact 77 (f := .noat "Machine" "width") rfl)
  · exact He.noat_ok (c.fact 78 (f := .noat "Machine" "limit_of_rows") rfl)
  · exact He.noat_ok (c.fact 79 (f := .noat "Machine" "base") rfl)
  · exact He.noat_ok (c.fact 80 (f := .noat "Machine" "counts") rfl)
  · exact He.noat_ok (c.fact 81 (f := .noat "Machine" "entered") rfl)
  · exact He.noat_ok (c.fact 82 (f := .noat "Big" "width") rfl)
  · exact He.noat_ok (c.fact 83 (f := .noat "Big" "side") rfl)
  · exact He.noat_ok (c.fact 84 (f := .noat "Big" "row") rfl)
  · exact ⟨_, fd1, He.glo_ok X G (c.fact 0 (f := .glo "is_integer") rfl), F1, F1.bindsN fun _ _ _ _ _ _ us hl => match us, hl with | [_], _ => rfl⟩
  · exact ⟨_, fd2, He.glo_ok X G (c.fact 1 (f := .glo "is_between") rfl), F2, F2.bindsN fun _ _ _ _ _ _ us hl => match us, hl with | [_, _, _], _ => rfl⟩
  · exact ⟨_, fd3, He.glo_ok X G (c.fact 2 (f := .glo "check_integer") rfl), F3, F3.bindsN fun _ _ _ _ _ _ us hl => match us, hl with | [_, _], _ => rfl⟩
  · exact ⟨_, fd4, He.glo_ok X G (c.fact 3 (f := .glo "check_machine") rfl), F4, F4.bindsN fun _ _ _ _ _ _ us hl => match us, hl with | [_], _ => rfl⟩
  · exact ⟨_, fd5, He.glo_ok X G (c.fact 4 (f := .glo "made") rfl), F5, F5.bindsN fun _ _ _ _ _ _ us hl => match us, hl with | [_, _, _], _ => rfl⟩
  · exact ⟨_, fd6, He.glo_ok X G (c.fact 5 (f := .glo "digits_of") rfl), F6, F6.bindsN fun _ _ _ _ _ _ us hl => match us, hl with | [_, _], _ => rfl⟩
  · exact ⟨_, fd7, He.glo_ok X G (c.fact 6 (f := .glo "big_of") rfl), F7, F7.bindsN fun _ _ _ _ _ _ us hl => match us, hl with | [_, _], _ => rfl⟩
  · exact ⟨_, fd8, He.glo_ok X G (c.fact 7 (f := .glo "value_of") rfl), F8, F8.bindsN fun _ _ _ _ _ _ us hl => match us, hl with | [_], _ => rfl⟩
  · exact ⟨_, fd9, He.glo_ok X G (c.fact 8 (f := .glo "check_big") rfl), F9, F9.bindsN fun _ _ _ _ _ _ us hl => match us, hl with | [_, _, _], _ => rfl⟩
  · exact ⟨_, fd10, He.glo_ok X G (c.fact 9 (f := .glo "check_bigs") rfl), F10, F10.bindsN fun _ _ _ _ _ _ us hl => match us, hl with | [_, _, _], _ => rfl⟩
  · exact ⟨_, fd11, He.glo_ok X G (c.fact 10 (f := .glo "check_any") rfl), F11, F11.bindsN fun _ _ _ _ _ _ us hl => match us, hl with | [_], _ => rfl⟩
  · exact ⟨_, fd12, He.glo_ok X G (c.fact 11 (f := .glo "is_compact") rfl), F12, F12.bindsN fun _ _ _ _ _ _ us hl => match us, hl with | [_], _ => rfl⟩
  · exact ⟨_, fd13, He.glo_ok X G (c.fact 12 (f := .glo "big") rfl), F13, F13.bindsN fun _ _ _ _ _ _ us hl => match us, hl with | [_, _], _ => rfl⟩
  · exact ⟨_, fd14, He.glo_ok X G (c.fact 13 (f := .glo "plain") rfl), F14, F14.bindsN fun _ _ _ _ _ _ us hl => match us, hl with | [_], _ => rfl⟩
  · exact ⟨_, fd15, He.glo_ok X G (c.fact 14 (f := .glo "looked_down") rfl), F15, F15.bindsN fun _ _ _ _ _ _ us hl => match us, hl with | [_, _, _], _ => rfl⟩
  · exact ⟨_, fd16, He.glo_ok X G (c.fact 15 (f := .glo "lifted") rfl), F16, F16.bindsN fun _ _ _ _ _ _ us hl => match us, hl with | [_, _, _], _ => rfl⟩
  · exact ⟨_, fd17, He.glo_ok X G (c.fact 16 (f := .glo "lowered") rfl), F17, F17.bindsN fun _ _ _ _ _ _ us hl => match us, hl with | [_, _, _], _ => rfl⟩
  · exact ⟨_, fd18, He.glo_ok X G (c.fact 17 (f := .glo "adding") rfl), F18, F18.bindsN fun _ _ _ _ _ _ us hl => match us, hl with | [_, _, _], _ => rfl⟩
  · exact ⟨_, fd19, He.glo_ok X G (c.fact 18 (f := .glo "taking") rfl), F19, F19.bindsN fun _ _ _ _ _ _ us hl => match us, hl with | [_, _, _], _ => rfl⟩
  · exact ⟨_, fd20, He.glo_ok X G (c.fact 19 (f := .glo "added") rfl), F20, F20.bindsN fun _ _ _ _ _ _ us hl => match us, hl with | [_, _, _], _ => rfl⟩
  · exact ⟨_, fd21, He.glo_ok X G (c.fact 20 (f := .glo "subtracted") rfl), F21, F21.bindsN fun _ _ _ _ _ _ us hl => match us, hl with | [_, _, _], _ => rfl⟩
  · exact ⟨_, fd22, He.glo_ok X G (c.fact 21 (f := .glo "short_divided") rfl), F22, F22.bindsN fun _ _ _ _ _ _ us hl => match us, hl with | [_, _, _], _ => rfl⟩
  · exact ⟨_, fd23, He.glo_ok X G (c.fact 22 (f := .glo "short_rest") rfl), F23, F23.bindsN fun _ _ _ _ _ _ us hl => match us, hl with | [_, _, _], _ => rfl⟩
  · exact ⟨_, fd24, He.glo_ok X G (c.fact 23 (f := .glo "guessed") rfl), F24, F24.bindsN fun _ _ _ _ _ _ us hl => match us, hl with | [_, _, _, _], _ => rfl⟩
  · exact ⟨_, fd25, He.glo_ok X G (c.fact 24 (f := .glo "take_product") rfl), F25, F25.bindsN fun _ _ _ _ _ _ us hl => match us, hl with | [_, _, _, _, _], _ => rfl⟩
  · exact ⟨_, fd26, He.glo_ok X G (c.fact 25 (f := .glo "put_back") rfl), F26, F26.bindsN fun _ _ _ _ _ _ us hl => match us, hl with | [_, _, _, _], _ => rfl⟩
  · exact ⟨_, fd27, He.glo_ok X G (c.fact 26 (f := .glo "quotient_digit") rfl), F27, F27.bindsN fun _ _ _ _ _ _ us hl => match us, hl with | [_, _, _, _], _ => rfl⟩
  · exact ⟨_, fd28, He.glo_ok X G (c.fact 27 (f := .glo "long_steps") rfl), F28, F28.bindsN fun _ _ _ _ _ _ us hl => match us, hl with | [_, _, _], _ => rfl⟩
  · exact ⟨_, fd29, He.glo_ok X G (c.fact 28 (f := .glo "long_divided") rfl), F29, F29.bindsN fun _ _ _ _ _ _ us hl => match us, hl with | [_, _, _], _ => rfl⟩
  · exact ⟨_, fd30, He.glo_ok X G (c.fact 29 (f := .glo "is_below") rfl), F30, F30.bindsN fun _ _ _ _ _ _ us hl => match us, hl with | [_, _], _ => rfl⟩
  · exact ⟨_, fd31, He.glo_ok X G (c.fact 30 (f := .glo "cut_off") rfl), F31, F31.bindsN fun _ _ _ _ _ _ us hl => match us, hl with | [_, _, _], _ => rfl⟩
  · exact ⟨_, fd32, He.glo_ok X G (c.fact 31 (f := .glo "are_digits") rfl), F32, F32.bindsN fun _ _ _ _ _ _ us hl => match us, hl with | [_, _], _ => rfl⟩
  · exact ⟨_, fd33, He.glo_ok X G (c.fact 32 (f := .glo "floored") rfl), F33, F33.bindsN fun _ _ _ _ _ _ us hl => match us, hl with | [_, _, _], _ => rfl⟩
  · exact ⟨_, fd34, He.glo_ok X G (c.fact 33 (f := .glo "floor_of") rfl), F34, F34.bindsN fun _ _ _ _ _ _ us hl => match us, hl with | [_, _, _], _ => rfl⟩
  · exact ⟨_, fd35, He.glo_ok X G (c.fact 34 (f := .glo "rest_of") rfl), F35, F35.bindsN fun _ _ _ _ _ _ us hl => match us, hl with | [_, _, _], _ => rfl⟩
  · exact ⟨_, fd36, He.glo_ok X G (c.fact 35 (f := .glo "modded") rfl), F36, F36.bindsN fun _ _ _ _ _ _ us hl => match us, hl with | [_, _, _], _ => rfl⟩
  · exact ⟨_, fd37, He.glo_ok X G (c.fact 36 (f := .glo "truncated") rfl), F37, F37.bindsN fun _ _ _ _ _ _ us hl => match us, hl with | [_, _, _], _ => rfl⟩
  · exact ⟨_, fd38, He.glo_ok X G (c.fact 37 (f := .glo "divide_both") rfl), F38, F38.bindsN fun _ _ _ _ _ _ us hl => match us, hl with | [_, _, _], _ => rfl⟩
  · exact ⟨_, fd39, He.glo_ok X G (c.fact 38 (f := .glo "floor_divide") rfl), F39, F39.bindsN fun _ _ _ _ _ _ us hl => match us, hl with | [_, _, _], _ => rfl⟩
  · exact ⟨_, fd40, He.glo_ok X G (c.fact 39 (f := .glo "modulo") rfl), F40, F40.bindsN fun _ _ _ _ _ _ us hl => match us, hl with | [_, _, _], _ => rfl⟩
  · exact ⟨_, fd41, He.glo_ok X G (c.fact 40 (f := .glo "check_long") rfl), F41, F41.bindsN fun _ _ _ _ _ _ us hl => match us, hl with | [_, _, _], _ => rfl⟩
  · exact ⟨_, fd42, He.glo_ok X G (c.fact 41 (f := .glo "long_walk") rfl), F42, F42.bindsN fun _ _ _ _ _ _ us hl => match us, hl with | [_, _, _], _ => rfl⟩
  · exact ⟨_, fd43, He.glo_ok X G (c.fact 42 (f := .glo "_law_source") rfl), F43, F43.bindsN fun _ _ _ _ _ _ us hl => match us, hl with | [_], _ => rfl⟩
  · exact ⟨_, fd44, He.glo_ok X G (c.fact 43 (f := .glo "_law_draw") rfl), F44, F44.bindsN fun _ _ _ _ _ _ us hl => match us, hl with | [_, _], _ => rfl⟩
  · exact ⟨_, fd45, He.glo_ok X G (c.fact 44 (f := .glo "_law_pick") rfl), F45, F45.bindsN fun _ _ _ _ _ _ us hl => match us, hl with | [_, _], _ => rfl⟩
  · exact ⟨_, fd46, He.glo_ok X G (c.fact 45 (f := .glo "_law_row") rfl), F46, F46.bindsN fun _ _ _ _ _ _ us hl => match us, hl with | [_, _], _ => rfl⟩
  · exact ⟨_, fd47, He.glo_ok X G (c.fact 46 (f := .glo "_law_number") rfl), F47, F47.bindsN fun _ _ _ _ _ _ us hl => match us, hl with | [_, _, _], _ => rfl⟩
  · exact ⟨_, fd48, He.glo_ok X G (c.fact 47 (f := .glo "_law_box") rfl), F48, F48.bindsN fun _ _ _ _ _ _ us hl => match us, hl with | [_], _ => rfl⟩
  · exact ⟨_, fd49, He.glo_ok X G (c.fact 48 (f := .glo "_law_signed") rfl), F49, F49.bindsN fun _ _ _ _ _ _ us hl => match us, hl with | [_, _], _ => rfl⟩
  · exact ⟨_, fd50, He.glo_ok X G (c.fact 49 (f := .glo "_law_is_below") rfl), F50, F50.bindsN fun _ _ _ _ _ _ us hl => match us, hl with | [_, _, _], _ => rfl⟩
  · exact ⟨_, fd51, He.glo_ok X G (c.fact 50 (f := .glo "_law_pair") rfl), F51, F51.bindsN fun _ _ _ _ _ _ us hl => match us, hl with | [_, _], _ => rfl⟩
  · exact ⟨_, fd52, He.glo_ok X G (c.fact 51 (f := .glo "_law_values") rfl), F52, F52.bindsN fun _ _ _ _ _ _ us hl => match us, hl with | [_], _ => rfl⟩
  · exact ⟨_, fd53, He.glo_ok X G (c.fact 52 (f := .glo "_law_right") rfl), F53, F53.bindsN fun _ _ _ _ _ _ us hl => match us, hl with | [_, _, _], _ => rfl⟩
  · exact ⟨_, fd54, He.glo_ok X G (c.fact 53 (f := .glo "_law_walks_right") rfl), F54, F54.bindsN fun _ _ _ _ _ _ us hl => match us, hl with | [_, _, _, _], _ => rfl⟩
  · exact ⟨_, fd55, He.glo_ok X G (c.fact 54 (f := .glo "law") rfl), F55, F55.bindsN fun _ _ _ _ _ _ us hl => match us, hl with | [_], _ => rfl⟩
  · exact ⟨_, fd56, He.meth_ok (c.fact 85 (f := .meth "Machine" "count") rfl), F56, F56.bindsN fun _ _ _ _ _ _ us hl => match us, hl with | [_, _, _], _ => rfl⟩
  · exact ⟨_, fd57, He.meth_ok (c.fact 86 (f := .meth "Machine" "enter") rfl), F57, F57.bindsN fun _ _ _ _ _ _ us hl => match us, hl with | [_, _, _, _], _ => rfl⟩
  · exact ⟨_, fd58, He.meth_ok (c.fact 87 (f := .meth "Machine" "parts") rfl), F58, F58.bindsN fun _ _ _ _ _ _ us hl => match us, hl with | [_], _ => rfl⟩
  · exact ⟨_, fd59, He.mkr_ok (c.fact 75 (f := .mkr "Machine") rfl), He.glo_ok X G (c.fact 55 (f := .glo "Machine") rfl), F59, b30, b2, b1⟩
  · exact ⟨_, fd60, He.mkr_ok (c.fact 76 (f := .mkr "Big") rfl), He.glo_ok X G (c.fact 56 (f := .glo "Big") rfl), F60, F60.bindsN fun _ _ _ _ _ _ us hl => match us, hl with | [_, _, _, _], _ => rfl⟩
end Tb
set_option Elab.async false
set_option linter.all false
set_option maxRecDepth 100000
set_option maxHeartbeats 4000000
open PySem PySem.W PySem.Calls PyProof.Rows
theorem PySem.Challenge.cw_thirtybits_k33_whole_divisions_of_multip_holds : PySem.Challenge.rw_thirtybits_k33_whole_divisions_of_multip.Holds := by
  w_on; o_law
  refine HandSHeadRun.head_any (r := OpenLaw.row PySem.Challenge.rw_thirtybits_k33_whole_divisions_of_multip) (q := Tb.qv) (H := Tb.hk) (ob := Tb.ob) (M := 4000) (loose := Tb.loose) (d := HandSHeadRun.topDef (OpenLaw.row PySem.Challenge.rw_thirtybits_k33_whole_divisions_of_multip).prog 75) (kwd := []) Tb.ob_eq
    (by kernel_rfl) (fun s => by kernel_rfl) Tb.run (by kernel_rfl) (by kernel_rfl) (by kernel_rfl) (by rfl) (by first | assumption | decide +kernel) (by decide +kernel) ⟨rfl, rfl, rfl, rfl, rfl, by decide +kernel⟩ ?hw ?hc
  case hw => w_witness2
  case hc =>
    refine L2.walk_ofE (l := PySem.Challenge.rw_thirtybits_k33_whole_divisions_of_multip) (n := 63) (k := 10) (x := "_law_script") (CX := L2.CX0) rfl (by decide) (by kernel_rfl) ⟨rfl, by decide, by decide⟩ ?F (fun _ _ _ _ z => z)
    intro w mg fa h Y G hmg0
    obtain ⟨K, KX, c⟩ := Y
    have hmg : mg ("law" : PySem.Str) = some (.ref fa) := by
      have e : (HandSHeadRun.topDef (OpenLaw.row PySem.Challenge.rw_thirtybits_k33_whole_divisions_of_multip).prog 75).name = ("law" : PySem.Str) := by kernel_rfl
      rw [← e]
      exact hmg0
    have T : Tb.Tx K mg := Tb.tx_of KX G c
    obtain ⟨f, fd, hf, F, _⟩ := T.d_law.ex
    have ef := hf.symm.trans hmg
    cases ef
    have hb := L2.FunD.bindsA (ps := ["_law_script"]) F fun _ _ _ _ _ _ us hl => match us, hl with | [_], _ => rfl
    exact ⟨K, fd, Tb.spLaw K, KX, fun s v => hb s [v] rfl, fun H a ns hl _ hS => ⟨a, ns, rfl, hl, hS, fun _ => rfl⟩, fun base _ _ => Tb.ok_law T F⟩
