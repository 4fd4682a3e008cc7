import PyProof.Rows.All
import Wide.All
import OpenK.AllK
import Wide.FinOn
import Open.SpecLaws
import KE.OsGo
import KE.OsRun
import HandS.ForSpec
import HandS.TryMany
import HandS.Iter
import HandS.Comp
import HandS.Strs
import HandS.Wide
import HandS.Flow
import HandS.Walk
import PySem.Challenge.RW_leaptprograms_s01_answers
import HandS.SetFor
set_option Elab.async false
namespace Lp
open VaaclBase
open Vaaclb (andThen givenAt behind power powerFrom)

/-! ## Values, moves -/
theorem valueAt_lt {s : Values} {i : Nat} (h : i < s.length) : valueAt s i = s[i] := by
  unfold valueAt
  rw [List.getElem?_eq_getElem h]
  rfl
theorem valueAt_ge {s : Values} {i : Nat} (h : s.length ≤ i) : valueAt s i = 0 := by
  unfold valueAt
  rw [List.getElem?_eq_none h]
  rfl
theorem values_ext {a b : Values} (hl : a.length = b.length) (h : ∀ i, i < a.length → valueAt a i = valueAt b i) : a = b := by
  apply List.ext_getElem hl
  intro i h1 h2
  have e := h i h1
  rw [valueAt_lt h1, valueAt_lt h2] at e
  exact e
theorem moved_length (m : Move) (s : Values) : (moved m s).length = m.length := by
  unfold moved
  rw [List.length_map]
theorem valueAt_moved (m : Move) (s : Values) (i : Nat) : valueAt (moved m s) i = given s (givenAt m i) := by
  unfold valueAt moved givenAt
  rw [List.getElem?_map]
  cases h : m[i]? with
  | none => rfl
  | some g => rfl
theorem given_behind (m : Move) (s : Values) (g : Given) : given s (behind m g) = given (moved m s) g := by
  unfold behind
  cases h : g.source with
  | none =>
    show given s g = given (moved m s) g
    unfold given
    rw [h]
    rfl
  | some j =>
    show given s ⟨(givenAt m j).source, (givenAt m j).add + g.add⟩ = given (moved m s) g
    have e := valueAt_moved m s j
    unfold given at e ⊢
    rw [h]
    show ((givenAt m j).source.map (valueAt s)).getD 0 + ((givenAt m j).add + g.add) = valueAt (moved m s) j + g.add
    rw [e]
    omega
theorem moved_andThen (m k : Move) (s : Values) : moved (andThen m k) s = moved k (moved m s) := by
  unfold andThen
  show (k.map (behind m)).map (given s) = k.map (given (moved m s))
  rw [List.map_map]
  apply List.map_congr_left
  intro g _
  exact given_behind m s g
theorem andThen_length (m k : Move) : (andThen m k).length = k.length := by
  unfold andThen
  rw [List.length_map]
theorem still_length (n : Nat) : (still n).length = n := by
  unfold still
  rw [List.length_map, List.length_range]
theorem moved_still {n : Nat} {s : Values} (h : s.length = n) : moved (still n) s = s := by
  subst h
  apply values_ext
  · rw [moved_length, still_length]
  · intro i hi
    rw [moved_length, still_length] at hi
    rw [valueAt_moved]
    unfold givenAt still
    rw [List.getElem?_map, List.getElem?_range hi]
    show valueAt s i + 0 = valueAt s i
    omega

/-! ## Iterating a move -/
def itr (m : Move) : Nat → Values → Values
  | 0, s => s
  | k + 1, s => itr m k (moved m s)
theorem itr_succ (m : Move) : ∀ (k : Nat) (s : Values), itr m (k + 1) s = moved m (itr m k s)
  | 0, _ => rfl
  | k + 1, s => by
    show itr m (k + 1) (moved m s) = moved m (itr m k (moved m s))
    exact itr_succ m k (moved m s)
theorem itr_add (m : Move) : ∀ (j k : Nat) (s : Values), itr m (j + k) s = itr m k (itr m j s)
  | 0, k, s => by rw [Nat.zero_add]; rfl
  | j + 1, k, s => by
    rw [show j + 1 + k = (j + k) + 1 by omega]
    show itr m (j + k) (moved m s) = itr m k (itr m j (moved m s))
    exact itr_add m j k (moved m s)
theorem itr_length {m : Move} {s : Values} (h : s.length = m.length) : ∀ k, (itr m k s).length = m.length
  | 0 => h
  | k + 1 => by rw [itr_succ, moved_length]
theorem itr_double (m : Move) : ∀ (k : Nat) (s : Values), itr (andThen m m) k s = itr m (2 * k) s
  | 0, _ => rfl
  | k + 1, s => by
    rw [show 2 * (k + 1) = 2 * k + 1 + 1 by omega]
    show itr (andThen m m) k (moved (andThen m m) s) = itr m (2 * k) (moved m (moved m s))
    rw [moved_andThen, itr_double m k]
theorem powerFrom_length : ∀ (f : Nat) (m : Move) (n : Nat), (powerFrom f m n).length = m.length
  | 0, m, _ => still_length _
  | f + 1, m, n => by
    unfold powerFrom
    split
    · exact still_length _
    · have h := powerFrom_length f (andThen m m) (n / 2)
      rw [andThen_length] at h
      show (if n % 2 = 1 then andThen m (powerFrom f (andThen m m) (n / 2)) else powerFrom f (andThen m m) (n / 2)).length = m.length
      split
      · rw [andThen_length, h]
      · exact h
theorem moved_powerFrom : ∀ (f : Nat) (m : Move) (n : Nat) (s : Values), s.length = m.length → n < 2 ^ f → moved (powerFrom f m n) s = itr m n s
  | 0, m, n, s, hs, hn => by
    have : n = 0 := by simp at hn; exact hn
    subst this
    exact moved_still hs
  | f + 1, m, n, s, hs, hn => by
    unfold powerFrom
    by_cases h0 : n = 0
    · rw [if_pos h0, h0]
      exact moved_still hs
    · rw [if_neg h0]
      have hp : 2 ^ (f + 1) = 2 * 2 ^ f := by rw [Nat.pow_succ]; omega
      have hlt : n / 2 < 2 ^ f := by omega
      show moved (if n % 2 = 1 then andThen m (powerFrom f (andThen m m) (n / 2)) else powerFrom f (andThen m m) (n / 2)) s = itr m n s
      by_cases h1 : n % 2 = 1
      · rw [if_pos h1, moved_andThen, moved_powerFrom f (andThen m m) (n / 2) (moved m s) (by rw [moved_length, andThen_length]) hlt, itr_double]
        have : n = 2 * (n / 2) + 1 := by omega
        conv => rhs; rw [this]
        rfl
      · rw [if_neg h1, moved_powerFrom f (andThen m m) (n / 2) s (by rw [hs, andThen_length]) hlt, itr_double]
        have : 2 * (n / 2) = n := by omega
        rw [this]
theorem after_itr {m : Move} {n : Nat} {s : Values} (hs : s.length = m.length) (hn : n < 2 ^ 64) : Vaaclb.after m n s = itr m n s := by
  unfold Vaaclb.after power
  exact moved_powerFrom _ m n s hs (by unfold Vaaclb.DIGITS; exact hn)
theorem statesFrom_get (m : Move) : ∀ (N : Nat) (s : Values) (k : Nat), k < N → (Vaaclc.statesFrom m N s)[k]? = some (itr m k s)
  | 0, _, _, h => by omega
  | N + 1, s, 0, _ => rfl
  | N + 1, s, k + 1, h => by
    show (s :: Vaaclc.statesFrom m N (moved m s))[k + 1]? = some (itr m k (moved m s))
    rw [List.getElem?_cons_succ]
    exact statesFrom_get m N (moved m s) k (by omega)
theorem statesFrom_length (m : Move) : ∀ (N : Nat) (s : Values), (Vaaclc.statesFrom m N s).length = N
  | 0, _ => rfl
  | N + 1, s => by
    show (s :: Vaaclc.statesFrom m N (moved m s)).length = N + 1
    rw [List.length_cons, statesFrom_length m N]

/-! ## Where a value comes from -/
def src (m : Move) (i : Nat) : Option Nat := (givenAt m i).source
def addAt (m : Move) (i : Nat) : Int := (givenAt m i).add
def oval (f : Nat → Int) : Option Nat → Int
  | none => 0
  | some j => f j
theorem valueAt_step (m : Move) (s : Values) (i : Nat) : valueAt (moved m s) i = oval (valueAt s) (src m i) + addAt m i := by
  rw [valueAt_moved]
  unfold given src addAt oval
  cases (givenAt m i).source with
  | none => rfl
  | some j => rfl
def sk (m : Move) : Nat → Nat → Option Nat
  | 0, i => some i
  | k + 1, i => (src m i).bind (sk m k)
def acc (m : Move) : Nat → Nat → Int
  | 0, _ => 0
  | k + 1, i => addAt m i + oval (acc m k) (src m i)
theorem value_closed (m : Move) (s : Values) : ∀ (k i : Nat), valueAt (itr m k s) i = oval (valueAt s) (sk m k i) + acc m k i
  | 0, i => by
    show valueAt s i = valueAt s i + 0
    omega
  | k + 1, i => by
    rw [itr_succ, valueAt_step]
    unfold sk acc
    cases h : src m i with
    | none =>
      show (0 : Int) + addAt m i = 0 + (addAt m i + 0)
      omega
    | some j =>
      show valueAt (itr m k s) j + addAt m i = oval (valueAt s) (sk m k j) + (addAt m i + acc m k j)
      rw [value_closed m s k j]
      omega
/-- split at the last steps: value at k + t steps is a value at t steps -/
theorem value_split (m : Move) (s : Values) (t : Nat) (k i : Nat) : valueAt (itr m (t + k) s) i = oval (fun j => valueAt (itr m t s) j) (sk m k i) + acc m k i := by
  rw [itr_add, value_closed]
theorem sk_add (m : Move) (t : Nat) : ∀ (k i : Nat), sk m (k + t) i = (sk m k i).bind (sk m t)
  | 0, i => by rw [Nat.zero_add]; rfl
  | k + 1, i => by
    rw [show k + 1 + t = (k + t) + 1 by omega]
    unfold sk
    cases h : src m i with
    | none => rfl
    | some j =>
      show sk m (k + t) j = (sk m k j).bind (sk m t)
      exact sk_add m t k j
theorem acc_add (m : Move) (t : Nat) : ∀ (k i : Nat), acc m (k + t) i = acc m k i + oval (acc m t) (sk m k i)
  | 0, i => by
    rw [Nat.zero_add]
    show acc m t i = 0 + acc m t i
    omega
  | k + 1, i => by
    rw [show k + 1 + t = (k + t) + 1 by omega]
    unfold sk acc
    cases h : src m i with
    | none =>
      show addAt m i + 0 = addAt m i + 0 + 0
      omega
    | some j =>
      show addAt m i + acc m (k + t) j = addAt m i + acc m k j + oval (acc m t) (sk m k j)
      rw [acc_add m t k j]
      omega

/-! ## Rounds again and again -/
/-- from the fourth round on all comes from circles that a closes -/
def Closes (m : Move) (a : Nat) : Prop := ∀ i j, i < m.length → sk m 4 i = some j → sk m a j = some j
/-- how much more it is each time -/
def more (m : Move) (a i : Nat) : Int := oval (acc m a) (sk m 4 i)
theorem Closes.again {m : Move} {a i : Nat} (h : Closes m a) (hi : i < m.length) (s : Values) (x : Nat) :
    valueAt (itr m (4 + x + a) s) i = valueAt (itr m (4 + x) s) i + more m a i := by
  rw [show 4 + x + a = (x + a) + 4 by omega, show 4 + x = x + 4 by omega, value_split m s (x + a) 4 i, value_split m s x 4 i]
  unfold more
  cases e : sk m 4 i with
  | none =>
    show (0 : Int) + _ = 0 + _ + 0
    omega
  | some j =>
    have c := h i j hi e
    show valueAt (itr m (x + a) s) j + _ = valueAt (itr m x s) j + _ + acc m a j
    rw [value_split m s x a j, c]
    show valueAt (itr m x s) j + acc m a j + _ = _
    omega
theorem Closes.many {m : Move} {a i : Nat} (h : Closes m a) (hi : i < m.length) (s : Values) (x : Nat) : ∀ q : Nat,
    valueAt (itr m (4 + x + q * a) s) i = valueAt (itr m (4 + x) s) i + q * more m a i
  | 0 => by simp
  | q + 1 => by
    rw [show 4 + x + (q + 1) * a = 4 + (x + q * a) + a by rw [Nat.add_mul]; omega, h.again hi, show 4 + (x + q * a) = 4 + x + q * a by omega, Closes.many h hi s x q]
    rw [show ((q + 1 : Nat) : Int) = (q : Int) + 1 by omega, Int.add_mul]
    omega
theorem sk_times {m : Move} {a j : Nat} (h : sk m a j = some j) : ∀ t : Nat, sk m (t * a) j = some j
  | 0 => by rw [Nat.zero_mul]; rfl
  | t + 1 => by
    rw [show (t + 1) * a = t * a + a by rw [Nat.add_mul]; omega, sk_add, sk_times h t]
    exact h
theorem acc_times {m : Move} {a j : Nat} (h : sk m a j = some j) : ∀ t : Nat, acc m (t * a) j = t * acc m a j
  | 0 => by
    rw [Nat.zero_mul]
    show (0 : Int) = (0 : Nat) * acc m a j
    omega
  | t + 1 => by
    rw [show (t + 1) * a = t * a + a by rw [Nat.add_mul]; omega, acc_add, sk_times h t, acc_times h t]
    show (t : Int) * acc m a j + acc m a j = _
    rw [show ((t + 1 : Nat) : Int) = (t : Int) + 1 by omega, Int.add_mul]
    omega
theorem Closes.times {m : Move} {a : Nat} (h : Closes m a) (t : Nat) : Closes m (t * a) := fun i j hi e => sk_times (h i j hi e) t
theorem Closes.more_times {m : Move} {a i : Nat} (h : Closes m a) (hi : i < m.length) (t : Nat) : more m (t * a) i = t * more m a i := by
  unfold more
  cases e : sk m 4 i with
  | none =>
    show (0 : Int) = _ * 0
    omega
  | some j => exact acc_times (h i j hi e) t
end Lp
namespace Lp
open VaaclBase
open Vaaclb (andThen givenAt behind)

/-! ## The period: the program's own way to it -/
def getI (l : List Int) (i : Int) : Int := l.getD i.toNat (-1)
/-- circle_of's loop: turns left, many, at -/
def circGo (l : List Int) (c : Int) : Nat → Int → Int → Int
  | 0, _, _ => 0
  | k + 1, many, at_ => if getI l at_ < 0 then 0 else if getI l at_ = c then many else circGo l c k (many + 1) (getI l at_)
def circ (l : List Int) (c : Int) : Int := circGo l c l.length 1 c
/-- common_multiple's loop: turns left, many -/
def cmGo (a b : Int) : Nat → Int → Int
  | 0, _ => a * b
  | k + 1, many => if many % b = 0 then many else cmGo a b k (many + a)
def cm (a b : Int) : Int := cmGo a b (b - 1).toNat a
def aroundTurn (l : List Int) (a : Int) (c : Nat) : Int := if 0 < circ l c then cm a (circ l c) else a
def aroundOf (l : List Int) : Int := (List.range l.length).foldl (aroundTurn l) 1
def skI (l : List Int) : Nat → Int → Int
  | 0, i => i
  | k + 1, i => if getI l i < 0 then -1 else skI l k (getI l i)

def allSrc (n : Nat) : Nat → List (List Int)
  | 0 => [[]]
  | k + 1 => (allSrc n k).flatMap fun l => (List.range (n + 1)).map fun (j : Nat) => ((j : Int) - 1) :: l
def checkPre (l : List Int) : Bool := (List.range l.length).all fun c => decide (0 ≤ circ l c) && decide (circ l c ≤ 4)
def checkOne (l : List Int) : Bool :=
  decide (1 ≤ aroundOf l) && (decide (aroundOf l ≤ 4) && (List.range l.length).all fun i => decide (skI l 4 i < 0) || decide (skI l (aroundOf l).toNat (skI l 4 i) = skI l 4 i))
/-- along the fold each around is small -/
def checkFold (l : List Int) : Bool := (List.range (l.length + 1)).all fun k => decide (1 ≤ ((List.range k).foldl (aroundTurn l) 1)) && decide (((List.range k).foldl (aroundTurn l) 1) ≤ 4)
theorem check_all : ((List.range 5).all fun n => (allSrc n n).all fun l => checkOne l && (checkPre l && checkFold l)) = true := by decide +kernel

theorem mem_allSrc (n : Nat) : ∀ (k : Nat) (l : List Int), l.length = k → (∀ x ∈ l, -1 ≤ x ∧ x < n) → l ∈ allSrc n k
  | 0, l, hl, _ => by
    cases l with
    | nil => exact List.mem_singleton.mpr rfl
    | cons a r => simp at hl
  | k + 1, l, hl, h => by
    cases l with
    | nil => simp at hl
    | cons a r =>
      unfold allSrc
      rw [List.mem_flatMap]
      refine ⟨r, mem_allSrc n k r (by simpa using hl) (fun x hx => h x (List.mem_cons_of_mem _ hx)), ?_⟩
      rw [List.mem_map]
      have ha := h a List.mem_cons_self
      refine ⟨(a + 1).toNat, List.mem_range.mpr (by omega), ?_⟩
      congr 1
      omega
theorem check_at {l : List Int} (hl : l.length ≤ 4) (h : ∀ x ∈ l, -1 ≤ x ∧ x < l.length) : checkOne l = true ∧ checkPre l = true ∧ checkFold l = true := by
  have c := check_all
  rw [List.all_eq_true] at c
  have c1 := c l.length (List.mem_range.mpr (by omega))
  rw [List.all_eq_true] at c1
  have c2 := c1 l (mem_allSrc l.length l.length l rfl h)
  rw [Bool.and_eq_true, Bool.and_eq_true] at c2
  exact c2

/-! ## Sources of a move -/
def srcs (m : Move) : List Int := m.map fun g => orNone g.source
theorem srcs_length (m : Move) : (srcs m).length = m.length := by
  unfold srcs
  rw [List.length_map]
theorem getI_srcs (m : Move) (i : Nat) : getI (srcs m) i = orNone (src m i) := by
  unfold getI srcs src givenAt
  rw [Int.toNat_natCast, List.getD_eq_getElem?_getD, List.getElem?_map]
  cases m[i]? with
  | none => rfl
  | some g => rfl
theorem skI_srcs (m : Move) : ∀ (k i : Nat), skI (srcs m) k i = orNone (sk m k i)
  | 0, i => rfl
  | k + 1, i => by
    unfold skI sk
    rw [getI_srcs]
    cases h : src m i with
    | none => rfl
    | some j =>
      show (if (int j) < 0 then (-1 : Int) else skI (srcs m) k (int j)) = orNone (sk m k j)
      rw [if_neg (by unfold int; omega)]
      exact skI_srcs m k j
/-- all sources are counters -/
def OkM (n : Nat) (m : Move) : Prop := m.length = n ∧ ∀ g ∈ m, ∀ j, g.source = some j → j < n
theorem OkM.src {n : Nat} {m : Move} (h : OkM n m) {i j : Nat} (e : src m i = some j) : j < n := by
  unfold Lp.src givenAt at e
  cases hg : m[i]? with
  | none =>
    rw [hg] at e
    cases e
  | some g =>
    rw [hg] at e
    exact h.2 g (List.mem_of_getElem? hg) j e
theorem OkM.andThen {n : Nat} {m k : Move} (h : OkM n m) (hk : k.length = n) : OkM n (andThen m k) := by
  refine ⟨by rw [andThen_length, hk], fun g hg j e => ?_⟩
  unfold Vaaclb.andThen at hg
  rw [List.mem_map] at hg
  obtain ⟨g0, _, rfl⟩ := hg
  unfold behind at e
  cases h0 : g0.source with
  | none =>
    rw [h0] at e
    change g0.source = some j at e
    rw [h0] at e
    cases e
  | some i =>
    rw [h0] at e
    exact h.src (i := i) e
theorem OkM.still (n : Nat) : OkM n (still n) := by
  refine ⟨still_length n, fun g hg j e => ?_⟩
  unfold VaaclBase.still at hg
  rw [List.mem_map] at hg
  obtain ⟨i, hi, rfl⟩ := hg
  cases e
  exact List.mem_range.mp hi
theorem OkM.srcs {n : Nat} {m : Move} (h : OkM n m) : ∀ x ∈ srcs m, -1 ≤ x ∧ x < (srcs m).length := by
  intro x hx
  rw [srcs_length, h.1]
  unfold Lp.srcs at hx
  rw [List.mem_map] at hx
  obtain ⟨g, hg, rfl⟩ := hx
  cases e : g.source with
  | none =>
    show -1 ≤ (-1 : Int) ∧ (-1 : Int) < n
    omega
  | some j =>
    have := h.2 g hg j e
    show -1 ≤ (j : Int) ∧ (j : Int) < n
    omega
theorem orNone_neg {o : Option Nat} (h : orNone o < 0) : o = none := by
  cases o with
  | none => rfl
  | some n =>
    change (n : Int) < 0 at h
    omega
theorem orNone_inj {o p : Option Nat} (h : orNone o = orNone p) : o = p := by
  cases o with
  | none =>
    cases p with
    | none => rfl
    | some k =>
      change (-1 : Int) = (k : Int) at h
      omega
  | some n =>
    cases p with
    | none =>
      change (n : Int) = -1 at h
      omega
    | some k =>
      change (n : Int) = (k : Int) at h
      have : n = k := by omega
      rw [this]
/-- **the program's period closes the circles** -/
theorem around_closes {n : Nat} {m : Move} (h : OkM n m) (hn : n ≤ 4) : 1 ≤ aroundOf (srcs m) ∧ aroundOf (srcs m) ≤ 4 ∧ Closes m (aroundOf (srcs m)).toNat := by
  have hl : (Lp.srcs m).length ≤ 4 := by rw [srcs_length, h.1]; exact hn
  have c := (check_at hl h.srcs).1
  unfold checkOne at c
  rw [Bool.and_eq_true, Bool.and_eq_true, decide_eq_true_eq, decide_eq_true_eq, List.all_eq_true] at c
  refine ⟨c.1, c.2.1, fun i j hi e => ?_⟩
  have d := c.2.2 i (List.mem_range.mpr (by rw [srcs_length]; exact hi))
  rw [skI_srcs m 4 i, e, Bool.or_eq_true, decide_eq_true_eq, decide_eq_true_eq] at d
  rcases d with d | d
  · change (j : Int) < 0 at d
    omega
  · have d2 : skI (Lp.srcs m) (aroundOf (Lp.srcs m)).toNat (j : Int) = orNone (some j) := d
    rw [skI_srcs] at d2
    exact orNone_inj d2
end Lp
namespace Lp
open VaaclBase
open Vaaclb (andThen givenAt behind)
open Vaaclc (Span Row spanAtMost spanOf endOf lesser less)

/-! ## Values along steps -/
def along (v d : Values) (q : Int) : Values := (v.zip d).map fun x => x.1 + q * x.2
theorem along_length {v d : Values} (h : v.length = d.length) (q : Int) : (along v d q).length = v.length := by
  unfold along
  rw [List.length_map, List.length_zip]
  omega
theorem valueAt_along {v d : Values} (h : v.length = d.length) (q : Int) (i : Nat) : valueAt (along v d q) i = valueAt v i + q * valueAt d i := by
  by_cases hi : i < v.length
  · have hd : i < d.length := by omega
    rw [valueAt_lt (s := along v d q) (by rw [along_length h]; exact hi), valueAt_lt hi, valueAt_lt hd]
    simp only [along, List.getElem_map, List.getElem_zip]
  · rw [valueAt_ge (s := along v d q) (by rw [along_length h]; omega), valueAt_ge (by omega : v.length ≤ i), valueAt_ge (by omega : d.length ≤ i)]
    rw [Int.mul_zero]
    rfl
theorem along_zero {v d : Values} (h : v.length = d.length) : along v d 0 = v := by
  apply values_ext (along_length h 0)
  intro i _
  rw [valueAt_along h, Int.zero_mul]
  omega
/-- a step behind a move -/
def linG (d : Values) (g : Given) : Int := oval (valueAt d) g.source
def lin (m : Move) (d : Values) : Values := m.map (linG d)
theorem lin_length (m : Move) (d : Values) : (lin m d).length = m.length := by
  unfold lin
  rw [List.length_map]
theorem given_along {v d : Values} (h : v.length = d.length) (q : Int) (g : Given) : given (along v d q) g = given v g + q * linG d g := by
  unfold given linG oval
  cases g.source with
  | none =>
    show (0 : Int) + g.add = 0 + g.add + q * 0
    omega
  | some j =>
    show valueAt (along v d q) j + g.add = valueAt v j + g.add + q * valueAt d j
    rw [valueAt_along h]
    omega
theorem moved_along {v d : Values} (h : v.length = d.length) (m : Move) (q : Int) : moved m (along v d q) = along (moved m v) (lin m d) q := by
  unfold moved lin along
  rw [List.zip_map, List.map_map]
  have e : ∀ l : Move, l.map (given (along v d q)) = (l.zip l).map ((fun x : Int × Int => x.1 + q * x.2) ∘ Prod.map (given v) (linG d)) := by
    intro l
    induction l with
    | nil => rfl
    | cons a r ih =>
      rw [List.map_cons, List.zip_cons_cons, List.map_cons, ih]
      congr 1
      exact given_along h q a
  exact e m
theorem less_along {v d : Values} (h : v.length = d.length) : less (along v d 1) v = d := by
  apply values_ext
  · unfold less
    rw [List.length_map, List.length_zip, along_length h]
    omega
  · intro i hi
    have hi2 : i < v.length := by
      unfold less at hi
      rw [List.length_map, List.length_zip, along_length h] at hi
      omega
    have hl : i < (less (along v d 1) v).length := hi
    rw [valueAt_lt hl]
    have e1 := valueAt_along h 1 i
    rw [valueAt_lt (s := along v d 1) (by rw [along_length h]; exact hi2), valueAt_lt hi2] at e1
    simp only [less, List.getElem_map, List.getElem_zip]
    rw [e1]
    omega

/-! ## First times -/
def FirstNot (P : Nat → Prop) : Option Nat → Prop
  | none => ∀ q, P q
  | some k => ¬ P k ∧ ∀ j, j < k → P j
theorem FirstNot.unique {P : Nat → Prop} : ∀ {a b : Option Nat}, FirstNot P a → FirstNot P b → a = b
  | none, none, _, _ => rfl
  | none, some k, h, g => absurd (h k) g.1
  | some k, none, h, g => absurd (g k) h.1
  | some j, some k, h, g => by
    rcases Nat.lt_trichotomy j k with c | c | c
    · exact absurd (g.2 j c) h.1
    · rw [c]
    · exact absurd (h.2 k c) g.1
theorem FirstNot.congr {P R : Nat → Prop} (e : ∀ q, P q ↔ R q) : ∀ {a : Option Nat}, FirstNot P a → FirstNot R a
  | none, h => fun q => (e q).mp (h q)
  | some k, h => ⟨fun r => h.1 ((e k).mpr r), fun j hj => (e j).mp (h.2 j hj)⟩
theorem FirstNot.both {P R : Nat → Prop} : ∀ {a b : Option Nat}, FirstNot P a → FirstNot R b → FirstNot (fun q => P q ∧ R q) (lesser a b)
  | none, none, h, g => fun q => ⟨h q, g q⟩
  | none, some k, h, g => ⟨fun x => g.1 x.2, fun j hj => ⟨h j, g.2 j hj⟩⟩
  | some k, none, h, g => ⟨fun x => h.1 x.1, fun j hj => ⟨h.2 j hj, g j⟩⟩
  | some j, some k, h, g => by
    show FirstNot _ (some (Nat.min j k))
    rcases Nat.le_total j k with c | c
    · rw [show Nat.min j k = j from Nat.min_eq_left c]
      exact ⟨fun x => h.1 x.1, fun i hi => ⟨h.2 i hi, g.2 i (by omega)⟩⟩
    · rw [show Nat.min j k = k from Nat.min_eq_right c]
      exact ⟨fun x => g.1 x.2, fun i hi => ⟨h.2 i (by omega), g.2 i hi⟩⟩
theorem FirstNot.fold {α : Type} (P : α → Nat → Prop) (f : α → Option Nat) : ∀ (l : List α) (P0 : Nat → Prop) (a : Option Nat), FirstNot P0 a → (∀ x ∈ l, FirstNot (P x) (f x)) →
    FirstNot (fun q => P0 q ∧ ∀ x ∈ l, P x q) ((l.map f).foldl lesser a)
  | [], P0, a, h, _ => h.congr fun q => ⟨fun x => ⟨x, fun _ hx => absurd hx List.not_mem_nil⟩, fun x => x.1⟩
  | x :: r, P0, a, h, g => by
    rw [List.map_cons, List.foldl_cons]
    refine (FirstNot.fold P f r _ _ (h.both (g x List.mem_cons_self)) fun y hy => g y (List.mem_cons_of_mem _ hy)).congr fun q => ?_
    constructor
    · rintro ⟨⟨a1, a2⟩, a3⟩
      refine ⟨a1, fun y hy => ?_⟩
      rcases List.mem_cons.mp hy with rfl | hy
      · exact a2
      · exact a3 y hy
    · rintro ⟨a1, a2⟩
      exact ⟨⟨a1, a2 x List.mem_cons_self⟩, fun y hy => a2 y (List.mem_cons_of_mem _ hy)⟩

/-! ## Spans -/
/-- q is in the span -/
def inSpan : Option Span → Nat → Prop
  | none, _ => False
  | some z, q => z.from_ ≤ q ∧ ∀ n, z.to = some n → q ≤ n
def okSpan : Option Span → Prop
  | none => True
  | some z => ∀ n, z.to = some n → z.from_ ≤ n
theorem endOf_first : ∀ (o : Option Span), FirstNot (inSpan o) (endOf o)
  | none => ⟨id, fun j hj => absurd hj (Nat.not_lt_zero j)⟩
  | some z => by
    unfold endOf
    show FirstNot (inSpan (some z)) (if 0 < z.from_ then some 0 else z.to.map fun n => n + 1)
    by_cases h : 0 < z.from_
    · rw [if_pos h]
      exact ⟨fun x => by have := x.1; omega, fun j hj => absurd hj (Nat.not_lt_zero j)⟩
    · rw [if_neg h]
      cases e : z.to with
      | none =>
        intro q
        refine ⟨by omega, fun n hn => ?_⟩
        rw [e] at hn
        cases hn
      | some n =>
        refine ⟨fun x => ?_, fun j hj => ⟨by omega, fun n' hn' => ?_⟩⟩
        · have := x.2 n e
          change n + 1 ≤ n at this
          omega
        · rw [e] at hn'
          cases hn'
          change j < n + 1 at hj
          omega
theorem from_first : ∀ (o : Option Span), okSpan o → FirstNot (fun q => ¬ inSpan o q) (o.map fun z => z.from_)
  | none, _ => fun q h => h
  | some z, h => ⟨fun x => x ⟨Nat.le_refl _, h⟩, fun j hj x => by have := x.1; change j < z.from_ at hj; omega⟩
theorem meet_in : ∀ (a b : Option Span) (q : Nat), inSpan (Vaacle.meet a b) q ↔ (inSpan a q ∧ inSpan b q)
  | none, none, q => ⟨fun h => h.elim, fun h => h.1.elim⟩
  | none, some y, q => ⟨fun h => h.elim, fun h => h.1.elim⟩
  | some x, none, q => ⟨fun h => h.elim, fun h => h.2.elim⟩
  | some x, some y, q => by
    have hl : ∀ (a b : Option Nat) (q : Nat), (∀ n, lesser a b = some n → q ≤ n) ↔ ((∀ n, a = some n → q ≤ n) ∧ ∀ n, b = some n → q ≤ n) := by
      intro a b q
      cases a with
      | none =>
        cases b with
        | none => simp [lesser]
        | some n => simp [lesser]
      | some m =>
        cases b with
        | none => simp [lesser]
        | some n =>
          constructor
          · intro h
            have := h _ rfl
            have h1 : Nat.min m n ≤ m := Nat.min_le_left m n
            have h2 : Nat.min m n ≤ n := Nat.min_le_right m n
            exact ⟨fun k hk => by cases hk; omega, fun k hk => by cases hk; omega⟩
          · rintro ⟨h1, h2⟩ k hk
            cases hk
            exact Nat.le_min.mpr ⟨h1 m rfl, h2 n rfl⟩
    have hm : ∀ a b : Nat, Nat.max a b ≤ q ↔ (a ≤ q ∧ b ≤ q) := fun a b => Nat.max_le
    unfold Vaacle.meet
    show inSpan (if ((lesser x.to y.to).any fun n => decide (n < Nat.max x.from_ y.from_)) = true then none else some ⟨Nat.max x.from_ y.from_, lesser x.to y.to⟩) q ↔ _
    by_cases c : ((lesser x.to y.to).any fun n => decide (n < Nat.max x.from_ y.from_)) = true
    · rw [if_pos c]
      refine ⟨fun h => h.elim, fun ⟨h1, h2⟩ => ?_⟩
      rw [Option.any_eq_true] at c
      obtain ⟨n, hn, hlt⟩ := c
      rw [decide_eq_true_eq] at hlt
      have hq : q ≤ n := (hl x.to y.to q).mpr ⟨h1.2, h2.2⟩ n hn
      have := (hm x.from_ y.from_).mpr ⟨h1.1, h2.1⟩
      omega
    · rw [if_neg c]
      show (Nat.max x.from_ y.from_ ≤ q ∧ ∀ n, lesser x.to y.to = some n → q ≤ n) ↔ _
      rw [hl, hm]
      constructor
      · rintro ⟨⟨a, b⟩, c, d⟩
        exact ⟨⟨a, c⟩, b, d⟩
      · rintro ⟨⟨a, c⟩, b, d⟩
        exact ⟨⟨a, b⟩, c, d⟩
theorem meet_ok : ∀ (a b : Option Span), okSpan (Vaacle.meet a b)
  | none, none => trivial
  | none, some y => trivial
  | some x, none => trivial
  | some x, some y => by
    unfold Vaacle.meet
    show okSpan (if ((lesser x.to y.to).any fun n => decide (n < Nat.max x.from_ y.from_)) = true then none else some ⟨Nat.max x.from_ y.from_, lesser x.to y.to⟩)
    by_cases c : ((lesser x.to y.to).any fun n => decide (n < Nat.max x.from_ y.from_)) = true
    · rw [if_pos c]
      trivial
    · rw [if_neg c]
      intro n hn
      have : ¬ n < Nat.max x.from_ y.from_ := fun h => c (by
        rw [Option.any_eq_true]
        exact ⟨n, hn, decide_eq_true h⟩)
      show Nat.max x.from_ y.from_ ≤ n
      omega
theorem spanAtMost_in (a d c : Int) (q : Nat) : inSpan (spanAtMost a d c) q ↔ a + q * d ≤ c := by
  unfold spanAtMost
  have hq : (0 : Int) ≤ q := by omega
  by_cases h1 : 0 < d
  · rw [if_pos h1]
    have e : (q : Int) ≤ (c - a) / d ↔ (q : Int) * d ≤ c - a := Int.le_ediv_iff_mul_le h1
    have hqd : 0 ≤ (q : Int) * d := Int.mul_nonneg hq (by omega)
    by_cases h2 : a ≤ c
    · rw [if_pos h2]
      have hn : 0 ≤ (c - a) / d := Int.ediv_nonneg (by omega) (by omega)
      constructor
      · rintro ⟨_, h⟩
        have := h _ rfl
        have := e.mp (by omega)
        omega
      · intro h
        refine ⟨Nat.zero_le _, fun n hn => ?_⟩
        cases hn
        have := e.mpr (by omega)
        omega
    · rw [if_neg h2]
      exact ⟨fun h => h.elim, fun h => by omega⟩
  · rw [if_neg h1]
    by_cases h3 : d < 0
    · rw [if_pos h3]
      have hqd : (q : Int) * d ≤ 0 := Int.mul_nonpos_of_nonneg_of_nonpos hq (by omega)
      by_cases h2 : a ≤ c
      · rw [if_pos h2]
        exact ⟨fun _ => by omega, fun _ => ⟨Nat.zero_le _, fun n hn => by cases hn⟩⟩
      · rw [if_neg h2]
        have e2 : (a - c + (-d) - 1) / (-d) ≤ q ↔ a - c ≤ (q : Int) * (-d) := by
          have l1 : (a - c + (-d) - 1) / (-d) < (q : Int) + 1 ↔ a - c + (-d) - 1 < ((q : Int) + 1) * (-d) := Int.ediv_lt_iff_lt_mul (by omega)
          rw [Int.add_mul] at l1
          constructor
          · intro h
            have := l1.mp (by omega)
            omega
          · intro h
            have := l1.mpr (by omega)
            omega
        rw [Int.mul_neg] at e2
        constructor
        · rintro ⟨h, _⟩
          change ((a - c + (-d) - 1) / (-d)).toNat ≤ q at h
          have := e2.mp (by omega)
          omega
        · intro h
          refine ⟨?_, fun n hn => by cases hn⟩
          change ((a - c + (-d) - 1) / (-d)).toNat ≤ q
          have := e2.mpr (by omega)
          omega
    · rw [if_neg h3]
      have : d = 0 := by omega
      subst this
      rw [Int.mul_zero]
      by_cases h2 : a ≤ c
      · rw [if_pos h2]
        exact ⟨fun _ => by omega, fun _ => ⟨Nat.zero_le _, fun n hn => by cases hn⟩⟩
      · rw [if_neg h2]
        exact ⟨fun h => h.elim, fun h => by omega⟩
/-- steps leave remainders: every step is a multiple of twelve -/
def Twelve (d : Values) : Prop := ∀ i, ∃ k : Int, valueAt d i = 12 * k
def testOk : Test → Prop
  | .rem _ m _ => m ∈ MODULI
  | _ => True
def isRem : Test → Bool
  | .rem _ _ _ => true
  | _ => false
theorem mod_stays {m : Nat} (hm : m ∈ MODULI) (a k q : Int) : (a + q * (12 * k)) % (m : Int) = a % (m : Int) := by
  unfold MODULI at hm
  simp only [List.mem_cons, List.not_mem_nil, or_false] at hm
  have e : ∃ c : Int, (12 : Int) = m * c := by
    rcases hm with rfl | rfl | rfl | rfl
    · exact ⟨6, rfl⟩
    · exact ⟨4, rfl⟩
    · exact ⟨3, rfl⟩
    · exact ⟨2, rfl⟩
  obtain ⟨c, hc⟩ := e
  rw [hc, show a + q * ((m : Int) * c * k) = a + (m : Int) * (q * (c * k)) by
    rw [Int.mul_assoc, Int.mul_left_comm], Int.add_mul_emod_self_left]
/-- **the times at which a test holds along a row** -/
theorem spanOf_in {v d : Values} (h : v.length = d.length) {t : Test} (ht : testOk t) (h12 : isRem t = true → Twelve d) (q : Nat) :
    inSpan (spanOf ⟨v, d⟩ t) q ↔ holds (along v d q) t = true := by
  cases t with
  | atMost x c =>
    show inSpan (spanAtMost (valueAt v x) (valueAt d x) c) q ↔ decide (valueAt (along v d q) x ≤ c) = true
    rw [spanAtMost_in, valueAt_along h, decide_eq_true_eq]
  | atLeast x c =>
    show inSpan (spanAtMost (-(valueAt v x)) (-(valueAt d x)) (-c)) q ↔ decide (c ≤ valueAt (along v d q) x) = true
    rw [spanAtMost_in, valueAt_along h, decide_eq_true_eq, Int.mul_neg]
    omega
  | below x y c =>
    show inSpan (spanAtMost (valueAt v x - valueAt v y) (valueAt d x - valueAt d y) c) q ↔ decide (valueAt (along v d q) x ≤ valueAt (along v d q) y + c) = true
    rw [spanAtMost_in, valueAt_along h, valueAt_along h, decide_eq_true_eq, Int.mul_sub]
    omega
  | rem x m r =>
    show inSpan (if holds v (.rem x m r) = true then some ⟨0, none⟩ else none) q ↔ (valueAt (along v d q) x % (m : Int) == (r : Int)) = true
    obtain ⟨k, hk⟩ := h12 rfl x
    rw [valueAt_along h, hk, mod_stays ht]
    show inSpan (if (valueAt v x % (m : Int) == (r : Int)) = true then some ⟨0, none⟩ else none) q ↔ _
    by_cases c : (valueAt v x % (m : Int) == (r : Int)) = true
    · rw [if_pos c]
      exact ⟨fun _ => c, fun _ => ⟨Nat.zero_le _, fun n hn => by cases hn⟩⟩
    · rw [if_neg c]
      exact ⟨fun h => h.elim, fun h => absurd h c⟩
theorem spanAll_fold {v d : Values} (h : v.length = d.length) : ∀ (g : Guard) (o : Option Span) (q : Nat), (∀ t ∈ g, testOk t ∧ (isRem t = true → Twelve d)) →
    (inSpan (g.foldl (fun o t => Vaacle.meet o (spanOf ⟨v, d⟩ t)) o) q ↔ (inSpan o q ∧ allHold (along v d q) g = true))
  | [], o, q, _ => by
    show inSpan o q ↔ (inSpan o q ∧ true = true)
    simp
  | t :: r, o, q, ht => by
    rw [List.foldl_cons, spanAll_fold h r _ q fun x hx => ht x (List.mem_cons_of_mem _ hx), meet_in, spanOf_in h (ht t List.mem_cons_self).1 (ht t List.mem_cons_self).2]
    show _ ↔ (_ ∧ (holds (along v d q) t && allHold (along v d q) r) = true)
    rw [Bool.and_eq_true]
    constructor
    · rintro ⟨⟨a, b⟩, c⟩
      exact ⟨a, b, c⟩
    · rintro ⟨a, b, c⟩
      exact ⟨⟨a, b⟩, c⟩
theorem spanAll_in {v d : Values} (h : v.length = d.length) (g : Guard) (q : Nat) (ht : ∀ t ∈ g, testOk t ∧ (isRem t = true → Twelve d)) :
    inSpan (Vaacle.spanAll ⟨v, d⟩ g) q ↔ allHold (along v d q) g = true := by
  unfold Vaacle.spanAll
  rw [spanAll_fold h g _ q ht]
  exact ⟨fun x => x.2, fun x => ⟨⟨Nat.zero_le _, fun n hn => by cases hn⟩, x⟩⟩
theorem spanAll_ok (w : Row) (g : Guard) : okSpan (Vaacle.spanAll w g) := by
  unfold Vaacle.spanAll
  have e : ∀ (g : Guard) (o : Option Span), okSpan o → okSpan (g.foldl (fun o t => Vaacle.meet o (spanOf w t)) o) := by
    intro g
    induction g with
    | nil => exact fun o h => h
    | cons t r ih => exact fun o _ => ih _ (meet_ok _ _)
  exact e g _ fun n hn => by cases hn
theorem within_holds (s : Values) : allHold s (Vaaclc.within s.length) = true ↔ isBeyond s = false := by
  unfold allHold Vaaclc.within isBeyond
  rw [List.all_eq_true]
  constructor
  · intro h
    rw [List.any_eq_false]
    intro v hv
    obtain ⟨i, hi, rfl⟩ := List.mem_iff_getElem.mp hv
    have m : ∀ t, t ∈ ([.atMost i NUMBER, .atLeast i (-NUMBER)] : List Test) → holds s t = true := fun t ht => h t (List.mem_flatMap.mpr ⟨i, List.mem_range.mpr hi, ht⟩)
    have a := m (.atMost i NUMBER) List.mem_cons_self
    have b := m (.atLeast i (-NUMBER)) (List.mem_cons_of_mem _ List.mem_cons_self)
    change decide (valueAt s i ≤ NUMBER) = true at a
    change decide (-NUMBER ≤ valueAt s i) = true at b
    rw [decide_eq_true_eq, valueAt_lt hi] at a b
    rw [Bool.or_eq_true, decide_eq_true_eq, decide_eq_true_eq]
    omega
  · intro h t ht
    rw [List.any_eq_false] at h
    obtain ⟨i, hi, hm⟩ := List.mem_flatMap.mp ht
    rw [List.mem_range] at hi
    have hv := h s[i] (List.getElem_mem hi)
    rw [Bool.or_eq_true, decide_eq_true_eq, decide_eq_true_eq] at hv
    rcases List.mem_cons.mp hm with rfl | hm
    · show decide (valueAt s i ≤ NUMBER) = true
      rw [decide_eq_true_eq, valueAt_lt hi]
      omega
    · rcases List.mem_cons.mp hm with rfl | hm
      · show decide (-NUMBER ≤ valueAt s i) = true
        rw [decide_eq_true_eq, valueAt_lt hi]
        omega
      · cases hm
end Lp
namespace Lp
open VaaclBase
open Vaaclb (andThen givenAt behind)
open Vaaclc (Span Row spanAtMost spanOf endOf lesser less)
open Vaacle (moveOf followed spanAll meet rowBehind breakAt breakIn timesOf)

/-! ## Loops that are well formed -/
def OkB (n : Nat) (b : Branch) : Prop := OkM n b.move ∧ ∀ t ∈ b.guard, testOk t
def OkL (n : Nat) (l : Loop) : Prop := ∀ b ∈ l, OkB n b
def hasRem (l : Loop) : Bool := l.any fun b => b.guard.any isRem
theorem branchAt_mem {l : Loop} {b : Nat} (h : b < l.length) : branchAt l b ∈ l := by
  unfold branchAt
  rw [List.getElem?_eq_getElem h]
  exact List.getElem_mem h
theorem OkL.move {n : Nat} {l : Loop} (h : OkL n l) {b : Nat} (hb : b < l.length) : OkM n (moveOf l b) := (h _ (branchAt_mem hb)).1
theorem OkL.tests {n : Nat} {l : Loop} (h : OkL n l) {x : Branch} (hx : x ∈ l) {d : Values} (h12 : hasRem l = true → Twelve d) :
    ∀ t ∈ x.guard, testOk t ∧ (isRem t = true → Twelve d) := fun t ht => ⟨(h x hx).2 t ht, fun r => h12 (by
  unfold hasRem
  rw [List.any_eq_true]
  exact ⟨x, hx, by
    rw [List.any_eq_true]
    exact ⟨t, ht, r⟩⟩)⟩
theorem Twelve.lin {d : Values} (h : Twelve d) (m : Move) : Twelve (lin m d) := by
  intro i
  by_cases hi : i < (Lp.lin m d).length
  · rw [valueAt_lt hi]
    simp only [Lp.lin, List.getElem_map]
    unfold linG
    cases (m[i]'(by rw [lin_length] at hi; exact hi)).source with
    | none => exact ⟨0, by rfl⟩
    | some j => exact h j
  · rw [valueAt_ge (by omega)]
    exact ⟨0, by omega⟩

/-! ## The chosen branch -/
theorem chosen_some {l : Loop} {s : Values} {b : Nat} (hb : b < l.length) :
    chosen l s = some b ↔ (allHold s (branchAt l b).guard = true ∧ ∀ x ∈ l.take b, ¬ allHold s x.guard = true) := by
  unfold chosen
  rw [List.findIdx?_eq_some_iff_getElem]
  have e : branchAt l b = l[b] := by
    unfold branchAt
    rw [List.getElem?_eq_getElem hb]
    rfl
  constructor
  · rintro ⟨h, h1, h2⟩
    refine ⟨by rw [e]; exact h1, fun x hx => ?_⟩
    obtain ⟨i, hi, rfl⟩ := List.mem_iff_getElem.mp hx
    rw [List.length_take] at hi
    rw [List.getElem_take]
    exact h2 i (by omega)
  · rintro ⟨h1, h2⟩
    refine ⟨hb, by rw [e] at h1; exact h1, fun j hj => ?_⟩
    exact h2 l[j] (List.mem_iff_getElem.mpr ⟨j, by rw [List.length_take]; omega, List.getElem_take⟩)
theorem chosen_lt {l : Loop} {s : Values} {b : Nat} (h : chosen l s = some b) : b < l.length := by
  unfold chosen at h
  rw [List.findIdx?_eq_some_iff_getElem] at h
  exact h.1

/-! ## The first time along a row -/
theorem rowBehind_eq {v d : Values} (h : v.length = d.length) (m : Move) : rowBehind m ⟨v, d⟩ = ⟨moved m v, lin m d⟩ := by
  unfold rowBehind
  show (⟨moved m v, less (moved m (Vaaclc.rowAt ⟨v, d⟩ 1)) (moved m v)⟩ : Row) = _
  have e : Vaaclc.rowAt ⟨v, d⟩ 1 = along v d 1 := rfl
  rw [e, moved_along h, less_along (by rw [moved_length, lin_length])]
theorem breakAt_first {n : Nat} {l : Loop} (ok : OkL n l) {b : Nat} (hb : b < l.length) {v d v' d' : Values} (h : v.length = d.length) (h' : v'.length = d'.length) (h12 : hasRem l = true → Twelve d) :
    FirstNot (fun q => chosen l (along v d q) = some b ∧ isBeyond (along v' d' q) = false) (breakAt l b ⟨v, d⟩ ⟨v', d'⟩) := by
  have hg := ok.tests (branchAt_mem hb) h12
  unfold breakAt
  show FirstNot _ ((((l.take b).map fun x => (spanAll ⟨v, d⟩ x.guard).map fun z => z.from_) ++ [endOf (spanAll ⟨v', d'⟩ (Vaaclc.within v'.length))]).foldl lesser (endOf (spanAll ⟨v, d⟩ (branchAt l b).guard)))
  rw [List.foldl_append]
  have f0 : FirstNot (fun q => allHold (along v d q) (branchAt l b).guard = true) (endOf (spanAll ⟨v, d⟩ (branchAt l b).guard)) :=
    (endOf_first _).congr fun q => spanAll_in h _ q hg
  have f1 := FirstNot.fold (fun (x : Branch) q => ¬ allHold (along v d q) x.guard = true) (fun x => (spanAll ⟨v, d⟩ x.guard).map fun z => z.from_) (l.take b) _ _ f0
    (fun x hx => (from_first _ (spanAll_ok _ _)).congr fun q => not_congr (spanAll_in h _ q (ok.tests (List.mem_of_mem_take hx) h12)))
  have f2 : FirstNot (fun q => isBeyond (along v' d' q) = false) (endOf (spanAll ⟨v', d'⟩ (Vaaclc.within v'.length))) :=
    (endOf_first _).congr fun q => by
      rw [spanAll_in h' _ q, ← within_holds, along_length h']
      intro t ht
      unfold Vaaclc.within at ht
      obtain ⟨i, _, hm⟩ := List.mem_flatMap.mp ht
      rcases List.mem_cons.mp hm with rfl | hm
      · exact ⟨trivial, fun r => by cases r⟩
      · rcases List.mem_cons.mp hm with rfl | hm
        · exact ⟨trivial, fun r => by cases r⟩
        · cases hm
  refine (f1.both f2).congr fun q => ?_
  rw [chosen_some hb]
/-! ## Along the pattern -/
/-- the values behind some branches -/
def adv (l : Loop) (p : List Nat) (s : Values) : Values := p.foldl (fun s b => moved (moveOf l b) s) s
/-- the step behind some branches -/
def advStep (l : Loop) (p : List Nat) (d : Values) : Values := p.foldl (fun d b => lin (moveOf l b) d) d
/-- the move of some branches, from one move on -/
def comp (l : Loop) (m : Move) (p : List Nat) : Move := p.foldl (fun m b => andThen m (moveOf l b)) m
theorem moved_comp (l : Loop) : ∀ (p : List Nat) (m : Move) (s : Values), moved (comp l m p) s = adv l p (moved m s)
  | [], _, _ => rfl
  | b :: p, m, s => by
    show moved (comp l (andThen m (moveOf l b)) p) s = adv l p (moved (moveOf l b) (moved m s))
    rw [moved_comp l p, moved_andThen]
theorem lin_andThen (m k : Move) (d : Values) : lin (andThen m k) d = lin k (lin m d) := by
  unfold lin andThen
  rw [List.map_map]
  apply List.map_congr_left
  intro g _
  show linG d (behind m g) = linG (lin m d) g
  unfold behind
  unfold linG
  cases h : g.source with
  | none =>
    show oval (valueAt d) g.source = 0
    rw [h]
    rfl
  | some j =>
    show oval (valueAt d) (givenAt m j).source = valueAt (lin m d) j
    unfold givenAt valueAt lin
    rw [List.getElem?_map]
    cases m[j]? with
    | none => rfl
    | some g' => rfl
theorem lin_comp (l : Loop) : ∀ (p : List Nat) (m : Move) (d : Values), lin (comp l m p) d = advStep l p (lin m d)
  | [], _, _ => rfl
  | b :: p, m, d => by
    show lin (comp l (andThen m (moveOf l b)) p) d = advStep l p (lin (moveOf l b) (lin m d))
    rw [lin_comp l p, lin_andThen]
theorem lin_still {n : Nat} {d : Values} (h : d.length = n) : lin (still n) d = d := by
  apply values_ext
  · rw [lin_length, still_length, h]
  · intro i hi
    rw [lin_length, still_length] at hi
    have hl : i < (lin (still n) d).length := by rw [lin_length, still_length]; exact hi
    rw [valueAt_lt hl]
    simp only [lin, still, List.getElem_map, List.getElem_range]
    rfl
theorem adv_along (l : Loop) : ∀ (p : List Nat) {v d : Values} (_ : v.length = d.length) (q : Int), adv l p (along v d q) = along (adv l p v) (advStep l p d) q ∧ (adv l p v).length = (advStep l p d).length
  | [], v, d, h, q => ⟨rfl, h⟩
  | b :: p, v, d, h, q => by
    show adv l p (moved (moveOf l b) (along v d q)) = along (adv l p (moved (moveOf l b) v)) (advStep l p (lin (moveOf l b) d)) q ∧ (adv l p (moved (moveOf l b) v)).length = (advStep l p (lin (moveOf l b) d)).length
    rw [moved_along h]
    exact adv_along l p (by rw [moved_length, lin_length]) q
theorem followed_cons (l : Loop) (b : Nat) (p : List Nat) (s : Values) :
    followed l (b :: p) s = true ↔ (chosen l s = some b ∧ isBeyond (moved (moveOf l b) s) = false) ∧ followed l p (moved (moveOf l b) s) = true := by
  show (chosen l s == some b && (!isBeyond (moved (moveOf l b) s) && followed l p (moved (moveOf l b) s))) = true ↔ _
  rw [Bool.and_eq_true, Bool.and_eq_true, beq_iff_eq, Bool.not_eq_true']
  exact ⟨fun ⟨a, b, c⟩ => ⟨⟨a, b⟩, c⟩, fun ⟨⟨a, b⟩, c⟩ => ⟨a, b, c⟩⟩
theorem followed_all (l : Loop) : ∀ (p : List Nat) (m : Move) (s : Values),
    (followed l p (moved m s) = true ↔ ∀ x ∈ p.zip (((List.range (p.length + 1)).map fun i => comp l m (p.take i)).zip (((List.range (p.length + 1)).map fun i => comp l m (p.take i)).drop 1)),
      chosen l (moved x.2.1 s) = some x.1 ∧ isBeyond (moved x.2.2 s) = false)
  | [], m, s => by
    constructor
    · intro _ x hx
      rw [List.zip_nil_left] at hx
      cases hx
    · intro _
      rfl
  | b :: p, m, s => by
    have e : ((List.range ((b :: p).length + 1)).map fun i => comp l m ((b :: p).take i)) = m :: ((List.range (p.length + 1)).map fun i => comp l (andThen m (moveOf l b)) (p.take i)) := by
      rw [List.length_cons, List.range_succ_eq_map, List.map_cons, List.map_map]
      rfl
    have e2 : ((List.range (p.length + 1)).map fun i => comp l (andThen m (moveOf l b)) (p.take i)) = andThen m (moveOf l b) :: (((List.range (p.length + 1)).map fun i => comp l (andThen m (moveOf l b)) (p.take i)).drop 1) := by
      rw [List.range_succ_eq_map, List.map_cons, List.drop_succ_cons, List.drop_zero]
      rfl
    rw [e, List.drop_succ_cons, List.drop_zero]
    have ih := followed_all l p (andThen m (moveOf l b)) s
    rw [followed_cons, ← moved_andThen, ih]
    generalize hL : ((List.range (p.length + 1)).map fun i => comp l (andThen m (moveOf l b)) (p.take i)) = L at e2 ⊢
    constructor
    · rintro ⟨h1, h2⟩ x hx
      rw [e2, List.zip_cons_cons, List.zip_cons_cons] at hx
      rcases List.mem_cons.mp hx with rfl | hx
      · exact h1
      · rw [← e2] at hx
        exact h2 x hx
    · intro h
      refine ⟨h (b, (m, andThen m (moveOf l b))) ?_, fun x hx => h x ?_⟩
      · rw [e2, List.zip_cons_cons, List.zip_cons_cons]
        exact List.mem_cons_self
      · rw [e2, List.zip_cons_cons, List.zip_cons_cons, ← e2]
        exact List.mem_cons_of_mem _ hx
theorem breakIn_first {n : Nat} {l : Loop} (ok : OkL n l) {p : List Nat} (hp : ∀ b ∈ p, b < l.length) {v d : Values} (hv : v.length = n) (hd : d.length = n) (h12 : hasRem l = true → Twelve d) :
    FirstNot (fun q => followed l p (along v d q) = true) (breakIn l (Vaacle.beginnings l n p) p ⟨v, d⟩) := by
  have h : v.length = d.length := by omega
  unfold breakIn
  have f := FirstNot.fold (fun (x : Nat × (Move × Move)) q => chosen l (moved x.2.1 (along v d q)) = some x.1 ∧ isBeyond (moved x.2.2 (along v d q)) = false)
    (fun x => breakAt l x.1 (rowBehind x.2.1 ⟨v, d⟩) (rowBehind x.2.2 ⟨v, d⟩)) (p.zip ((Vaacle.beginnings l n p).zip ((Vaacle.beginnings l n p).drop 1))) (fun _ => True) none (fun _ => trivial) ?_
  · refine f.congr fun q => ?_
    have e := followed_all l p (still n) (along v d q)
    rw [moved_still (by rw [along_length h, hv])] at e
    rw [e]
    exact ⟨fun x => x.2, fun x => ⟨trivial, x⟩⟩
  · intro x hx
    rw [rowBehind_eq h, rowBehind_eq h]
    refine (breakAt_first ok (hp _ (List.of_mem_zip hx).1) (by rw [moved_length, lin_length]) (by rw [moved_length, lin_length]) fun r => (h12 r).lin _).congr fun q => ?_
    rw [moved_along h, moved_along h]
theorem comp_ok {n : Nat} {l : Loop} (ok : OkL n l) : ∀ {p : List Nat} {m : Move}, (∀ b ∈ p, b < l.length) → OkM n m → OkM n (comp l m p)
  | [], _, _, h => h
  | b :: p, m, hp, h => by
    show OkM n (comp l (andThen m (moveOf l b)) p)
    exact comp_ok ok (fun x hx => hp x (List.mem_cons_of_mem _ hx)) (h.andThen (ok.move (hp b List.mem_cons_self)).1)
/-- a pattern's move -/
def patM (l : Loop) (n : Nat) (p : List Nat) : Move := comp l (still n) p
theorem patM_ok {n : Nat} {l : Loop} (ok : OkL n l) {p : List Nat} (hp : ∀ b ∈ p, b < l.length) : OkM n (patM l n p) := comp_ok ok hp (OkM.still n)
theorem last_beginnings (l : Loop) (n : Nat) (p : List Nat) (x : Move) : (Vaacle.beginnings l n p).getLastD x = patM l n p := by
  unfold Vaacle.beginnings
  rw [List.range_succ, List.map_append]
  rw [List.getLastD_eq_getLast?, List.getLast?_append]
  show (some ((p.take p.length).foldl _ _)).getD x = patM l n p
  rw [List.take_length]
  rfl
/-- how much more a counter is behind so many times -/
def moreList (m : Move) (a : Nat) : Values := (List.range m.length).map fun i => more m a i
theorem moreList_length (m : Move) (a : Nat) : (moreList m a).length = m.length := by
  unfold moreList
  rw [List.length_map, List.length_range]
theorem valueAt_moreList {m : Move} {a i : Nat} (h : i < m.length) : valueAt (moreList m a) i = more m a i := by
  unfold valueAt moreList
  rw [List.getElem?_map, List.getElem?_range h]
  rfl
theorem Closes.along {m : Move} {a : Nat} (h : Closes m a) {s : Values} (hs : s.length = m.length) (x q : Nat) :
    itr m (4 + x + q * a) s = along (itr m (4 + x) s) (moreList m a) q := by
  have hl : (itr m (4 + x) s).length = (moreList m a).length := by rw [itr_length hs, moreList_length]
  apply values_ext
  · rw [itr_length hs, along_length hl, itr_length hs]
  · intro i hi
    rw [itr_length hs] at hi
    rw [valueAt_along hl, valueAt_moreList hi, h.many hi]
theorem Closes.less {m : Move} {a : Nat} (h : Closes m a) {s : Values} (hs : s.length = m.length) (x : Nat) :
    less (itr m (4 + x + a) s) (itr m (4 + x) s) = moreList m a := by
  have e := h.along hs x 1
  rw [Nat.one_mul] at e
  rw [e]
  exact less_along (by rw [itr_length hs, moreList_length])
theorem Closes.twelve {m : Move} {a : Nat} (h : Closes m a) (t : Nat) (ht : ∃ k, t = 12 * k) : Twelve (moreList m (t * a)) := by
  intro i
  by_cases hi : i < m.length
  · rw [valueAt_moreList hi, h.more_times hi]
    obtain ⟨k, rfl⟩ := ht
    refine ⟨k * more m a i, ?_⟩
    rw [← Int.mul_assoc]
    congr 1
  · rw [valueAt_ge (by rw [moreList_length]; omega)]
    exact ⟨0, by omega⟩
/-- the spec's row: 144 -/
theorem closes_144 {n : Nat} {m : Move} (h : OkM n m) (hn : n ≤ 4) : Closes m 144 ∧ Twelve (moreList m 144) := by
  obtain ⟨h1, h4, c⟩ := around_closes h hn
  generalize (aroundOf (srcs m)).toNat = a at c
  have ha : aroundOf (srcs m) = 1 ∨ aroundOf (srcs m) = 2 ∨ aroundOf (srcs m) = 3 ∨ aroundOf (srcs m) = 4 := by omega
  obtain ⟨_, _, c⟩ := around_closes h hn
  rcases ha with e | e | e | e
  · rw [e] at c
    exact ⟨c.times 144, c.twelve 144 ⟨12, rfl⟩⟩
  · rw [e] at c
    exact ⟨c.times 72, c.twelve 72 ⟨6, rfl⟩⟩
  · rw [e] at c
    exact ⟨c.times 48, c.twelve 48 ⟨4, rfl⟩⟩
  · rw [e] at c
    exact ⟨c.times 36, c.twelve 36 ⟨3, rfl⟩⟩
theorem rowsOf_get {m : Move} (c : Closes m 144) {s : Values} (hs : s.length = m.length) {r : Nat} (hr : r < 144) :
    (Vaaclc.rowsOf m s)[r]? = some ⟨itr m (4 + r) s, moreList m 144⟩ := by
  unfold Vaaclc.rowsOf
  show ((List.range 144).map fun r => (⟨((List.drop 4 (Vaaclc.statesFrom m 292 s))[r]?).getD [], less (((List.drop 4 (Vaaclc.statesFrom m 292 s))[r + 144]?).getD []) (((List.drop 4 (Vaaclc.statesFrom m 292 s))[r]?).getD [])⟩ : Row))[r]? = _
  rw [List.getElem?_map, List.getElem?_range hr]
  show some (⟨((List.drop 4 (Vaaclc.statesFrom m 292 s))[r]?).getD [], less (((List.drop 4 (Vaaclc.statesFrom m 292 s))[r + 144]?).getD []) (((List.drop 4 (Vaaclc.statesFrom m 292 s))[r]?).getD [])⟩ : Row) = _
  rw [List.getElem?_drop, List.getElem?_drop, statesFrom_get m 292 s (4 + r) (by omega), statesFrom_get m 292 s (4 + (r + 144)) (by omega)]
  show some (⟨itr m (4 + r) s, less (itr m (4 + (r + 144)) s) (itr m (4 + r) s)⟩ : Row) = _
  rw [show 4 + (r + 144) = 4 + r + 144 by omega, c.less hs]
theorem rowsOf_length (m : Move) (s : Values) : (Vaaclc.rowsOf m s).length = 144 := by
  unfold Vaaclc.rowsOf
  show (List.map _ (List.range 144)).length = 144
  rw [List.length_map, List.length_range]
theorem FirstNot.row {P : Nat → Prop} {r : Nat} : ∀ {o : Option Nat}, FirstNot (fun q => P (4 + r + 144 * q)) o → r < 144 → FirstNot (fun k => 4 ≤ k ∧ (k - 4) % 144 = r → P k) (o.map fun q => Vaaclc.roundAt r q)
  | none, h, hr => fun k ⟨h4, e⟩ => by
    have := h ((k - 4) / 144)
    change P (4 + r + 144 * ((k - 4) / 144)) at this
    rw [show 4 + r + 144 * ((k - 4) / 144) = k by omega] at this
    exact this
  | some q, h, hr => by
    show FirstNot _ (some (4 + r + 144 * q))
    refine ⟨fun x => h.1 (x ⟨by omega, by omega⟩), fun j hj ⟨h4, e⟩ => ?_⟩
    have := h.2 ((j - 4) / 144) (by omega)
    change P (4 + r + 144 * ((j - 4) / 144)) at this
    rw [show 4 + r + 144 * ((j - 4) / 144) = j by omega] at this
    exact this
/-- **the specification's number of times** is the first at which the pattern isn't followed -/
theorem timesOf_first {n : Nat} {l : Loop} (ok : OkL n l) (hn : n ≤ 4) {p : List Nat} (hp : ∀ b ∈ p, b < l.length) {s : Values} (hs : s.length = n) :
    FirstNot (fun k => followed l p (itr (patM l n p) k s) = true) (timesOf l p s) := by
  have okm := patM_ok ok hp
  have hsm : s.length = (patM l n p).length := by rw [hs, okm.1]
  obtain ⟨c, tw⟩ := closes_144 okm hn
  unfold timesOf
  simp only [hs, last_beginnings]
  generalize hm : patM l n p = m at okm hsm c tw
  show FirstNot _ (match (List.range 4).find? fun k => !followed l p (((Vaaclc.statesFrom m 4 s)[k]?).getD []) with
    | some k => some k
    | none => (Vaaclc.rowsOf m s).zipIdx.foldl (fun o w => lesser o ((breakIn l (Vaacle.beginnings l n p) p w.1).map fun q => Vaaclc.roundAt w.2 q)) none)
  have small : ∀ k, k < 4 → (((Vaaclc.statesFrom m 4 s)[k]?).getD []) = itr m k s := fun k hk => by
    rw [statesFrom_get m 4 s k hk]
    rfl
  cases hf : (List.range 4).find? fun k => !followed l p (((Vaaclc.statesFrom m 4 s)[k]?).getD []) with
  | some k =>
    have hk := List.mem_of_find?_eq_some hf
    have hk4 := List.mem_range.mp hk
    have h1 := List.find?_some hf
    rw [small k hk4] at h1
    refine ⟨fun e => ?_, fun j hj => ?_⟩
    · rw [e] at h1
      cases h1
    · rw [List.find?_range_eq_some] at hf
      have := hf.2.2 j hj
      rw [Bool.not_not, small j (by omega)] at this
      exact this
  | none =>
    rw [List.find?_eq_none] at hf
    have lows : ∀ k, k < 4 → followed l p (itr m k s) = true := fun k hk => by
      have := hf k (List.mem_range.mpr hk)
      rw [small k hk] at this
      simpa using this
    have rows : ∀ w ∈ (Vaaclc.rowsOf m s).zipIdx, w.2 < 144 ∧ w.1 = ⟨itr m (4 + w.2) s, moreList m 144⟩ := by
      intro w hw
      rw [List.mem_zipIdx_iff_getElem?] at hw
      have hlt : w.2 < (Vaaclc.rowsOf m s).length := (List.getElem?_eq_some_iff.mp hw).1
      rw [rowsOf_length] at hlt
      rw [rowsOf_get c hsm hlt] at hw
      exact ⟨hlt, (Option.some.inj hw).symm⟩
    have back : ∀ r, r < 144 → (((⟨itr m (4 + r) s, moreList m 144⟩ : Row), r) : Row × Nat) ∈ (Vaaclc.rowsOf m s).zipIdx := fun r hr => by
      rw [List.mem_zipIdx_iff_getElem?]
      exact rowsOf_get c hsm hr
    generalize (Vaaclc.rowsOf m s).zipIdx = R at rows back ⊢
    have each : ∀ w ∈ R, FirstNot (fun k => 4 ≤ k ∧ (k - 4) % 144 = w.2 → followed l p (itr m k s) = true) ((breakIn l (Vaacle.beginnings l n p) p w.1).map fun q => Vaaclc.roundAt w.2 q) := fun w hw => by
      obtain ⟨h1, h2⟩ := rows w hw
      rw [h2]
      refine FirstNot.row (P := fun k => followed l p (itr m k s) = true) ?_ h1
      refine (breakIn_first ok hp (by rw [itr_length hsm, okm.1]) (by rw [moreList_length, okm.1]) fun _ => tw).congr fun q => ?_
      rw [Nat.mul_comm 144 q, c.along hsm]
    have f := FirstNot.fold (fun (w : Row × Nat) k => 4 ≤ k ∧ (k - 4) % 144 = w.2 → followed l p (itr m k s) = true) (fun w => (breakIn l (Vaacle.beginnings l n p) p w.1).map fun q => Vaaclc.roundAt w.2 q)
      R (fun _ => True) none (fun _ => trivial) each
    rw [List.foldl_map] at f
    refine f.congr fun k => ⟨fun ⟨_, x⟩ => ?_, fun x => ⟨trivial, fun _ _ _ => x⟩⟩
    by_cases hk : k < 4
    · exact lows k hk
    · have hr : (k - 4) % 144 < 144 := Nat.mod_lt _ (by omega)
      exact x _ (back _ hr) ⟨by omega, rfl⟩
end Lp
namespace Lp
open VaaclBase
open Vaaclb (andThen givenAt behind)
open Vaaclc (lesser)
open Vaacle (moveOf followed timesOf)

/-! ## Flips: the program's own way along a row -/
def flip (v d b : Int) : Int := if d = 0 then 0 else if v ≤ b then (if d < 0 then 0 else (b - v) / d + 1) else if 0 < d then 0 else (v - b - d - 1) / (-d)
theorem flip_says (v d b : Int) (q : Nat) : (flip v d b = 0 → (v + q * d ≤ b ↔ v ≤ b)) ∧
    (flip v d b ≠ 0 → 0 < flip v d b ∧ ((q : Int) < flip v d b → (v + q * d ≤ b ↔ v ≤ b)) ∧ (flip v d b ≤ (q : Int) → (v + q * d ≤ b ↔ ¬ v ≤ b))) := by
  unfold flip
  have hq : (0 : Int) ≤ q := by omega
  by_cases h0 : d = 0
  · rw [if_pos h0, h0]
    exact ⟨fun _ => by rw [Int.mul_zero, Int.add_zero], fun h => absurd rfl h⟩
  · rw [if_neg h0]
    by_cases h1 : v ≤ b
    · rw [if_pos h1]
      by_cases h2 : d < 0
      · rw [if_pos h2]
        have : (q : Int) * d ≤ 0 := Int.mul_nonpos_of_nonneg_of_nonpos hq (by omega)
        exact ⟨fun _ => ⟨fun _ => h1, fun _ => by omega⟩, fun h => absurd rfl h⟩
      · rw [if_neg h2]
        have hd : 0 < d := by omega
        have hn : 0 ≤ (b - v) / d := Int.ediv_nonneg (by omega) (by omega)
        have e : (q : Int) ≤ (b - v) / d ↔ (q : Int) * d ≤ b - v := Int.le_ediv_iff_mul_le hd
        refine ⟨fun h => by omega, fun _ => ⟨by omega, fun h => ⟨fun _ => h1, fun _ => ?_⟩, fun h => ⟨fun g => ?_, fun g => absurd h1 g⟩⟩⟩
        · have := e.mp (by omega)
          omega
        · have := e.mpr (by omega)
          omega
    · rw [if_neg h1]
      by_cases h2 : 0 < d
      · rw [if_pos h2]
        have : 0 ≤ (q : Int) * d := Int.mul_nonneg hq (by omega)
        exact ⟨fun _ => ⟨fun _ => by omega, fun _ => by omega⟩, fun h => absurd rfl h⟩
      · rw [if_neg h2]
        have hd : 0 < -d := by omega
        have l1 : (v - b - d - 1) / (-d) < (q : Int) + 1 ↔ v - b - d - 1 < ((q : Int) + 1) * (-d) := Int.ediv_lt_iff_lt_mul hd
        have l0 : 1 ≤ (v - b - d - 1) / (-d) ↔ 1 * (-d) ≤ v - b - d - 1 := Int.le_ediv_iff_mul_le hd
        rw [Int.add_mul, Int.mul_neg] at l1
        have hp : 1 ≤ (v - b - d - 1) / (-d) := l0.mpr (by omega)
        refine ⟨fun h => by omega, fun _ => ⟨by omega, fun h => ⟨fun g => ?_, fun g => absurd g h1⟩, fun h => ⟨fun _ => h1, fun _ => ?_⟩⟩⟩
        · have := l1.mpr (by omega)
          omega
        · have := l1.mp (by omega)
          omega
theorem flip_nonneg (v d b : Int) : 0 ≤ flip v d b := by
  by_cases h : flip v d b = 0
  · omega
  · have := ((flip_says v d b 0).2 h).1
    omega
/-- where the flip isn't, nothing changes -/
theorem flip_stays {v d b : Int} {q : Nat} (hq : flip v d b ≠ ((q + 1 : Nat) : Int)) : (v + ((q + 1 : Nat) : Int) * d ≤ b ↔ v + (q : Int) * d ≤ b) := by
  have a := flip_says v d b (q + 1)
  have c := flip_says v d b q
  by_cases h : flip v d b = 0
  · rw [a.1 h, c.1 h]
  · have a2 := a.2 h
    have c2 := c.2 h
    by_cases g : flip v d b ≤ (q : Int)
    · rw [a2.2.2 (by omega), c2.2.2 g]
    · rw [a2.2.1 (by omega), c2.2.1 (by omega)]
def flipOf (v d : Values) : Test → Int
  | .atMost x c => flip (valueAt v x) (valueAt d x) c
  | .atLeast x c => flip (-(valueAt v x)) (-(valueAt d x)) (-c)
  | .below x y c => flip (valueAt v x - valueAt v y) (valueAt d x - valueAt d y) c
  | .rem _ _ _ => 0
def flipsChoice (l : Loop) (v d : Values) (b : Nat) : List Int := (List.range (b + 1)).flatMap fun i => (branchAt l i).guard.map (flipOf v d)
def farOne (v d : Values) (j : Nat) : List Int := [flip (valueAt v j) (valueAt d j) NUMBER, flip (-(valueAt v j)) (-(valueAt d j)) NUMBER]
def flipsFar (v d : Values) : List Int := (List.range v.length).flatMap (farOne v d)
def flipsAll (l : Loop) : List Nat → Values → Values → List Int
  | [], _, _ => []
  | b :: p, v, d => (flipsChoice l v d b ++ flipsFar (moved (moveOf l b) v) (lin (moveOf l b) d)) ++ flipsAll l p (moved (moveOf l b) v) (lin (moveOf l b) d)
theorem holds_stays {v d : Values} (h : v.length = d.length) {t : Test} (ht : testOk t) (h12 : isRem t = true → Twelve d) {q : Nat} (hq : flipOf v d t ≠ ((q + 1 : Nat) : Int)) :
    holds (along v d ((q + 1 : Nat) : Int)) t = holds (along v d (q : Int)) t := by
  rw [Bool.eq_iff_iff]
  cases t with
  | atMost x c =>
    show decide (valueAt (along v d _) x ≤ c) = true ↔ decide (valueAt (along v d _) x ≤ c) = true
    rw [decide_eq_true_eq, decide_eq_true_eq, valueAt_along h, valueAt_along h]
    exact flip_stays hq
  | atLeast x c =>
    show decide (c ≤ valueAt (along v d _) x) = true ↔ decide (c ≤ valueAt (along v d _) x) = true
    rw [decide_eq_true_eq, decide_eq_true_eq, valueAt_along h, valueAt_along h]
    have e := flip_stays (v := -(valueAt v x)) (d := -(valueAt d x)) (b := -c) hq
    rw [Int.mul_neg, Int.mul_neg] at e
    omega
  | below x y c =>
    show decide (valueAt (along v d _) x ≤ valueAt (along v d _) y + c) = true ↔ decide (valueAt (along v d _) x ≤ valueAt (along v d _) y + c) = true
    rw [decide_eq_true_eq, decide_eq_true_eq, valueAt_along h, valueAt_along h, valueAt_along h, valueAt_along h]
    have e := flip_stays (v := valueAt v x - valueAt v y) (d := valueAt d x - valueAt d y) (b := c) hq
    rw [Int.mul_sub, Int.mul_sub] at e
    omega
  | rem x m r =>
    show (valueAt (along v d _) x % (m : Int) == (r : Int)) = true ↔ (valueAt (along v d _) x % (m : Int) == (r : Int)) = true
    obtain ⟨k, hk⟩ := h12 rfl x
    rw [valueAt_along h, valueAt_along h, hk, mod_stays ht, mod_stays ht]
theorem allHold_stays {v d : Values} (h : v.length = d.length) {q : Nat} : ∀ {g : Guard}, (∀ t ∈ g, testOk t ∧ (isRem t = true → Twelve d)) → (∀ t ∈ g, flipOf v d t ≠ ((q + 1 : Nat) : Int)) →
    allHold (along v d ((q + 1 : Nat) : Int)) g = allHold (along v d (q : Int)) g
  | [], _, _ => rfl
  | t :: r, ht, hq => by
    show (holds _ t && allHold _ r) = (holds _ t && allHold _ r)
    rw [holds_stays h (ht t List.mem_cons_self).1 (ht t List.mem_cons_self).2 (hq t List.mem_cons_self),
      allHold_stays h (fun x hx => ht x (List.mem_cons_of_mem _ hx)) fun x hx => hq x (List.mem_cons_of_mem _ hx)]
theorem isBeyond_iff (s : Values) : isBeyond s = false ↔ ∀ i, i < s.length → valueAt s i ≤ NUMBER ∧ -(valueAt s i) ≤ NUMBER := by
  unfold isBeyond
  rw [List.any_eq_false]
  constructor
  · intro h i hi
    have := h _ (List.getElem_mem hi)
    rw [Bool.or_eq_true, decide_eq_true_eq, decide_eq_true_eq, ← valueAt_lt hi] at this
    omega
  · intro h x hx
    obtain ⟨i, hi, rfl⟩ := List.mem_iff_getElem.mp hx
    have := h i hi
    rw [valueAt_lt hi] at this
    rw [Bool.or_eq_true, decide_eq_true_eq, decide_eq_true_eq]
    omega
theorem beyond_stays {v d : Values} (h : v.length = d.length) {q : Nat} (hq : ((q + 1 : Nat) : Int) ∉ flipsFar v d) :
    (isBeyond (along v d ((q + 1 : Nat) : Int)) = false ↔ isBeyond (along v d (q : Int)) = false) := by
  rw [isBeyond_iff, isBeyond_iff, along_length h, along_length h]
  have each : ∀ i, i < v.length → ((valueAt (along v d ((q + 1 : Nat) : Int)) i ≤ NUMBER ∧ -(valueAt (along v d ((q + 1 : Nat) : Int)) i) ≤ NUMBER) ↔ (valueAt (along v d (q : Int)) i ≤ NUMBER ∧ -(valueAt (along v d (q : Int)) i) ≤ NUMBER)) := by
    intro i hi
    have m : ∀ x, x ∈ farOne v d i → x ≠ ((q + 1 : Nat) : Int) := fun x hx e => hq (by
      rw [← e]
      unfold flipsFar
      exact List.mem_flatMap.mpr ⟨i, List.mem_range.mpr hi, hx⟩)
    have e1 := flip_stays (m _ List.mem_cons_self)
    have e2 := flip_stays (m _ (List.mem_cons_of_mem _ List.mem_cons_self))
    rw [Int.mul_neg, Int.mul_neg] at e2
    rw [valueAt_along h, valueAt_along h]
    omega
  exact ⟨fun g i hi => (each i hi).mp (g i hi), fun g i hi => (each i hi).mpr (g i hi)⟩
theorem followed_stays {n : Nat} {l : Loop} (ok : OkL n l) {q : Nat} : ∀ {p : List Nat} {v d : Values}, (∀ b ∈ p, b < l.length) → v.length = d.length → (hasRem l = true → Twelve d) →
    ((q + 1 : Nat) : Int) ∉ flipsAll l p v d → (followed l p (along v d ((q + 1 : Nat) : Int)) = true ↔ followed l p (along v d (q : Int)) = true)
  | [], _, _, _, _, _, _ => Iff.rfl
  | b :: p, v, d, hp, h, h12, hq => by
    unfold flipsAll at hq
    rw [List.mem_append, List.mem_append, not_or, not_or] at hq
    obtain ⟨⟨q1, q2⟩, q3⟩ := hq
    have hb := hp b List.mem_cons_self
    have hl : (moved (moveOf l b) v).length = (lin (moveOf l b) d).length := by rw [moved_length, lin_length]
    have t12 : hasRem l = true → Twelve (lin (moveOf l b) d) := fun r => (h12 r).lin _
    have ih := followed_stays (q := q) ok (fun x hx => hp x (List.mem_cons_of_mem _ hx)) hl t12 q3
    have e2 := beyond_stays (q := q) hl q2
    have ch : ∀ i, i ≤ b → allHold (along v d ((q + 1 : Nat) : Int)) (branchAt l i).guard = allHold (along v d (q : Int)) (branchAt l i).guard := fun i hi =>
      allHold_stays h (ok.tests (branchAt_mem (by omega)) h12) fun t ht e => q1 (by
        unfold flipsChoice
        refine List.mem_flatMap.mpr ⟨i, List.mem_range.mpr (by omega), ?_⟩
        rw [← e]
        exact List.mem_map.mpr ⟨t, ht, rfl⟩)
    have tk : ∀ x ∈ l.take b, allHold (along v d ((q + 1 : Nat) : Int)) x.guard = allHold (along v d (q : Int)) x.guard := by
      intro x hx
      obtain ⟨i, hi, rfl⟩ := List.mem_iff_getElem.mp hx
      rw [List.length_take] at hi
      have := ch i (by omega)
      unfold branchAt at this
      rw [List.getElem?_eq_getElem (by omega : i < l.length)] at this
      rw [List.getElem_take]
      exact this
    rw [followed_cons, followed_cons, moved_along h, moved_along h, chosen_some hb, chosen_some hb, ch b (Nat.le_refl b), e2, ih]
    constructor
    · rintro ⟨⟨⟨a, c⟩, e⟩, f⟩
      exact ⟨⟨⟨a, fun x hx => by rw [← tk x hx]; exact c x hx⟩, e⟩, f⟩
    · rintro ⟨⟨⟨a, c⟩, e⟩, f⟩
      exact ⟨⟨⟨a, fun x hx => by rw [tk x hx]; exact c x hx⟩, e⟩, f⟩

/-! ## The first stop -/
/-- none: 0 -/
def zeroOr : Option Nat → Int
  | none => 0
  | some k => k
/-- what first_stop gives, of the sorted flips -/
def firstStop (l : Loop) (p : List Nat) (v d : Values) (ks : List Int) : Int := (ks.find? fun k => !followed l p (along v d k)).getD 0
theorem firstStop_first {n : Nat} {l : Loop} (ok : OkL n l) {p : List Nat} (hp : ∀ b ∈ p, b < l.length) {v d : Values} (h : v.length = d.length) (h12 : hasRem l = true → Twelve d)
    {ks : List Int} (srt : ks.Pairwise (· < ·)) (mem : ∀ k, k ∈ ks ↔ (k ∈ flipsAll l p v d ∧ 0 < k)) (h0 : followed l p (along v d 0) = true) :
    ∃ o, FirstNot (fun q : Nat => followed l p (along v d q) = true) o ∧ firstStop l p v d ks = zeroOr o ∧ o ≠ some 0 := by
  -- the least time at which it isn't followed is a flip
  have isflip : ∀ k : Nat, ¬ followed l p (along v d (k : Int)) = true → (∀ j : Nat, j < k → followed l p (along v d (j : Int)) = true) → (k : Int) ∈ ks := by
    intro k hk hj
    cases k with
    | zero => exact absurd h0 hk
    | succ q =>
      rw [mem]
      refine ⟨Classical.byContradiction fun hn => hk ?_, by omega⟩
      exact (followed_stays ok hp h h12 hn).mpr (hj q (by omega))
  unfold firstStop
  cases hf : ks.find? fun k => !followed l p (along v d k) with
  | none =>
    refine ⟨none, ?_, rfl, fun e => by cases e⟩
    rw [List.find?_eq_none] at hf
    have : ∀ q : Nat, ∀ j : Nat, j < q → followed l p (along v d (j : Int)) = true := by
      intro q
      induction q with
      | zero => exact fun j hj => absurd hj (Nat.not_lt_zero j)
      | succ q ih =>
        intro j hj
        by_cases c : followed l p (along v d (q : Int)) = true
        · rcases Nat.lt_or_ge j q with g | g
          · exact ih j g
          · rw [show j = q by omega]
            exact c
        · have := hf _ (isflip q c ih)
          simp only [Bool.not_eq_true', Bool.not_eq_false] at this
          exact absurd this c
    exact fun q => this (q + 1) q (by omega)
  | some k =>
    have h1 := List.find?_some hf
    have hm := List.mem_of_find?_eq_some hf
    have hk := (mem k).mp hm
    obtain ⟨kn, rfl⟩ : ∃ kn : Nat, k = kn := ⟨k.toNat, by omega⟩
    have hnf : ¬ followed l p (along v d (kn : Int)) = true := by
      intro c
      rw [c] at h1
      cases h1
    refine ⟨some kn, ⟨hnf, ?_⟩, rfl, fun e => by cases e; omega⟩
    have before : ∀ x ∈ ks, x < (kn : Int) → followed l p (along v d x) = true := by
      intro x hx hlt
      rw [List.find?_eq_some_iff_append] at hf
      obtain ⟨_, as, bs, e, ha⟩ := hf
      rw [e] at hx
      rcases List.mem_append.mp hx with g | g
      · have := ha x g
        simpa using this
      · rw [e, List.pairwise_append] at srt
        rcases List.mem_cons.mp g with rfl | g
        · omega
        · have := (List.pairwise_cons.mp srt.2.1).1 x g
          omega
    have : ∀ q : Nat, q ≤ kn → ∀ j : Nat, j < q → followed l p (along v d (j : Int)) = true := by
      intro q
      induction q with
      | zero => exact fun _ j hj => absurd hj (Nat.not_lt_zero j)
      | succ q ih =>
        intro hq j hj
        by_cases c : followed l p (along v d (q : Int)) = true
        · rcases Nat.lt_or_ge j q with g | g
          · exact ih (by omega) j g
          · rw [show j = q by omega]
            exact c
        · exact absurd (before _ (isflip q c (ih (by omega))) (by omega)) c
    exact this kn (Nat.le_refl kn)

/-! ## The stop's time -/
theorem FirstNot.rowA {P : Nat → Prop} {r a : Nat} : ∀ {o : Option Nat}, FirstNot (fun q => P (4 + r + q * a)) o → r < a → FirstNot (fun k => 4 ≤ k ∧ (k - 4) % a = r → P k) (o.map fun q => 4 + r + q * a)
  | none, h, hr => fun k ⟨h4, e⟩ => by
    have := h ((k - 4) / a)
    have dm := Nat.div_add_mod (k - 4) a
    rw [Nat.mul_comm] at dm
    change P (4 + r + (k - 4) / a * a) at this
    rw [show 4 + r + (k - 4) / a * a = k by omega] at this
    exact this
  | some q, h, hr => by
    show FirstNot _ (some (4 + r + q * a))
    refine ⟨fun x => h.1 (x ⟨by omega, ?_⟩), fun j hj ⟨h4, e⟩ => ?_⟩
    · rw [show 4 + r + q * a - 4 = r + q * a by omega, Nat.add_mul_mod_self_right, Nat.mod_eq_of_lt hr]
    · have dm := Nat.div_add_mod (j - 4) a
      rw [Nat.mul_comm] at dm
      have hlt : (j - 4) / a < q := by
        apply Classical.byContradiction
        intro c
        have : q * a ≤ (j - 4) / a * a := Nat.mul_le_mul_right a (by omega)
        omega
      have := h.2 ((j - 4) / a) hlt
      change P (4 + r + (j - 4) / a * a) at this
      rw [show 4 + r + (j - 4) / a * a = j by omega] at this
      exact this
/-- one turn of stop_time's loop -/
def bestTurn (a : Int) (start k best : Int) : Int := if 0 < k ∧ (best < 0 ∨ start + k * a < best) then start + k * a else best
theorem bestTurn_lesser {a r : Nat} (o o' : Option Nat) (h0 : o' ≠ some 0) : bestTurn (a : Int) ((4 + r : Nat) : Int) (zeroOr o') (orNone o) = orNone (lesser o (o'.map fun q => 4 + r + q * a)) := by
  unfold bestTurn
  cases o' with
  | none =>
    rw [if_neg (fun c => absurd c.1 (by show ¬ (0 : Int) < 0; omega))]
    cases o <;> rfl
  | some k =>
    have hk : k ≠ 0 := fun e => h0 (by rw [e])
    have hc : ((4 + r : Nat) : Int) + zeroOr (some k) * (a : Int) = ((4 + r + k * a : Nat) : Int) := by
      unfold zeroOr
      rw [Int.natCast_add (4 + r) (k * a), Int.natCast_mul]
    have hz : 0 < zeroOr (some k) := by show (0 : Int) < (k : Int); omega
    rw [hc]
    cases o with
    | none =>
      rw [if_pos ⟨hz, Or.inl (by show (-1 : Int) < 0; omega)⟩]
      rfl
    | some b =>
      show (if 0 < zeroOr (some k) ∧ ((b : Int) < 0 ∨ ((4 + r + k * a : Nat) : Int) < (b : Int)) then ((4 + r + k * a : Nat) : Int) else (b : Int)) = ((Nat.min b (4 + r + k * a) : Nat) : Int)
      by_cases g : 4 + r + k * a < b
      · rw [if_pos ⟨hz, Or.inr (by omega)⟩, show Nat.min b (4 + r + k * a) = 4 + r + k * a from Nat.min_eq_right (by omega)]
      · rw [if_neg (by omega), show Nat.min b (4 + r + k * a) = b from Nat.min_eq_left (by omega)]

/-! ## Beginnings: as often as it's followed, up to most times -/
def begs (l : Loop) (p : List Nat) : Nat → Values → List Values
  | 0, _ => []
  | k + 1, s => if followed l p s = true then adv l p s :: begs l p k (adv l p s) else []
theorem adv_itr (l : Loop) {n : Nat} (p : List Nat) {s : Values} (hs : s.length = n) : adv l p s = moved (patM l n p) s := by
  unfold patM
  rw [moved_comp, moved_still hs]
theorem begs_says {n : Nat} {l : Loop} (ok : OkL n l) {p : List Nat} (hp : ∀ b ∈ p, b < l.length) : ∀ (k : Nat) (s : Values), s.length = n →
    (begs l p k s).length ≤ k ∧ (∀ i, i ≤ (begs l p k s).length → (s :: begs l p k s)[i]? = some (itr (patM l n p) i s)) ∧ (∀ j, j < (begs l p k s).length → followed l p (itr (patM l n p) j s) = true) ∧
      ((begs l p k s).length < k → ¬ followed l p (itr (patM l n p) (begs l p k s).length s) = true)
  | 0, s, _ => ⟨Nat.le_refl _, fun i hi => by
      have : i = 0 := by simpa [begs] using hi
      subst this
      rfl, fun j hj => by simp [begs] at hj, fun h => by simp [begs] at h⟩
  | k + 1, s, hs => by
    by_cases c : followed l p s = true
    · have e : begs l p (k + 1) s = adv l p s :: begs l p k (adv l p s) := if_pos c
      have ha := adv_itr l p hs
      have hl : (adv l p s).length = n := by rw [ha, moved_length, (patM_ok ok hp).1]
      obtain ⟨i1, i2, i3, i4⟩ := begs_says ok hp k (adv l p s) hl
      rw [e, List.length_cons]
      refine ⟨by omega, fun i hi => ?_, fun j hj => ?_, fun hlt => ?_⟩
      · cases i with
        | zero => rfl
        | succ i =>
          rw [List.getElem?_cons_succ, i2 i (by omega)]
          show some (itr (patM l n p) i (adv l p s)) = some (itr (patM l n p) i (moved (patM l n p) s))
          rw [ha]
      · cases j with
        | zero => exact c
        | succ j =>
          have := i3 j (by omega)
          rw [ha] at this
          exact this
      · have := i4 (by omega)
        rw [ha] at this
        show ¬ followed l p (itr (patM l n p) _ (moved (patM l n p) s)) = true
        rw [ha]
        exact this
    · have e : begs l p (k + 1) s = [] := if_neg c
      rw [e]
      exact ⟨Nat.zero_le _, fun i hi => by
        have : i = 0 := by simpa using hi
        subst this
        rfl, fun j hj => by simp at hj, fun _ => c⟩
end Lp
namespace Lp
open VaaclBase
open Vaaclb (andThen givenAt behind)
open Vaacle (moveOf followed timesOf Leap Leapt leapLoop leapPiece leapFrom oneRound How patternAt)

/-! ## The number of times is not great -/
theorem followed_far {l : Loop} : ∀ {p : List Nat} {s : Values}, p ≠ [] → followed l p s = true → isBeyond (adv l p s) = false
  | [], _, h, _ => absurd rfl h
  | [b], s, _, h => ((followed_cons l b [] s).mp h).1.2
  | b :: c :: p, s, _, h => followed_far (p := c :: p) (fun z => by cases z) ((followed_cons l b (c :: p) s).mp h).2
theorem beyond_far {s : Values} (h : isBeyond s = false) (i : Nat) : -1000000000000 ≤ valueAt s i ∧ valueAt s i ≤ 1000000000000 := by
  by_cases hi : i < s.length
  · have := (isBeyond_iff s).mp h i hi
    unfold NUMBER at this
    omega
  · rw [valueAt_ge (by omega)]
    omega
theorem times_small {n : Nat} {l : Loop} (ok : OkL n l) (hn : n ≤ 4) {p : List Nat} (hp : ∀ b ∈ p, b < l.length) (hne : p ≠ []) {s : Values} (hs : s.length = n) {q : Nat} (h : timesOf l p s = some q) : q < 2 ^ 64 := by
  apply Classical.byContradiction
  intro big
  have okm := patM_ok ok hp
  have hsm : s.length = (patM l n p).length := by rw [hs, okm.1]
  obtain ⟨c, _⟩ := closes_144 okm hn
  have f := timesOf_first ok hn hp hs
  rw [h] at f
  have near : ∀ j, j < q → isBeyond (itr (patM l n p) (j + 1) s) = false := fun j hj => by
    have := followed_far hne (f.2 j hj)
    rw [adv_itr l (n := n) p (by rw [itr_length hsm, okm.1]), ← itr_succ] at this
    exact this
  have zero : ∀ i, i < n → more (patM l n p) 144 i = 0 := fun i hi => by
    have e0 := c.many (by rw [okm.1]; exact hi) s 0 10000000000000 (i := i)
    have e : valueAt (itr (patM l n p) 1440000000000004 s) i = valueAt (itr (patM l n p) 4 s) i + 10000000000000 * more (patM l n p) 144 i := e0
    have h1 : -1000000000000 ≤ valueAt (itr (patM l n p) 1440000000000004 s) i ∧ valueAt (itr (patM l n p) 1440000000000004 s) i ≤ 1000000000000 := beyond_far (near 1440000000000003 (by omega)) i
    have h2 : -1000000000000 ≤ valueAt (itr (patM l n p) 4 s) i ∧ valueAt (itr (patM l n p) 4 s) i ≤ 1000000000000 := beyond_far (near 3 (by omega)) i
    omega
  have same : itr (patM l n p) q s = itr (patM l n p) (q - 144) s := by
    apply values_ext
    · rw [itr_length hsm, itr_length hsm]
    · intro i hi
      rw [itr_length hsm, okm.1] at hi
      have e := c.again (by rw [okm.1]; exact hi) s (q - 148) (i := i)
      rw [zero i hi, show 4 + (q - 148) + 144 = q by omega, show 4 + (q - 148) = q - 144 by omega] at e
      omega
  refine f.1 ?_
  show followed l p (itr (patM l n p) q s) = true
  rw [same]
  exact f.2 (q - 144) (by omega)

/-! ## One leap; a loop leapt -/
/-- where the rounds and the leaps begin doesn't matter -/
def shift (k r : Nat) (L : List Leap) (y : Leapt) : Leapt := ⟨y.how, r + y.rounds, y.values, L ++ y.leaps.map fun z => ⟨k, z.pattern, z.times⟩⟩
theorem leapLoop_shift (k : Nat) (l : Loop) : ∀ (n : Nat) (r : Nat) (v : Values) (L : List Leap), leapLoop k l n ⟨.over, r, v, L⟩ = shift k r L (leapLoop 0 l n ⟨.over, 0, v, []⟩)
  | 0, r, v, L => by
    show (match chosen l v with | none => (⟨.over, r, v, L⟩ : Leapt) | some _ => ⟨.many, r, v, L⟩) = shift k r L (match chosen l v with | none => (⟨.over, 0, v, []⟩ : Leapt) | some _ => ⟨.many, 0, v, []⟩)
    cases chosen l v <;> simp [shift]
  | n + 1, r, v, L => by
    unfold leapLoop
    cases hc : chosen l v with
    | none => simp [shift]
    | some b =>
      show (match timesOf l (patternAt l v) v with
        | none => (⟨.never, r, v, L ++ [⟨k, patternAt l v, none⟩]⟩ : Leapt)
        | some 0 => if (oneRound k l b ⟨.over, r, v, L⟩).how = .over then leapLoop k l n (oneRound k l b ⟨.over, r, v, L⟩) else oneRound k l b ⟨.over, r, v, L⟩
        | some q => leapLoop k l n ⟨.over, r + q * (patternAt l v).length, Vaaclb.after ((Vaacle.beginnings l v.length (patternAt l v)).getLastD []) q v, L ++ [⟨k, patternAt l v, some q⟩]⟩) =
        shift k r L (match timesOf l (patternAt l v) v with
        | none => (⟨.never, 0, v, [] ++ [⟨0, patternAt l v, none⟩]⟩ : Leapt)
        | some 0 => if (oneRound 0 l b ⟨.over, 0, v, []⟩).how = .over then leapLoop 0 l n (oneRound 0 l b ⟨.over, 0, v, []⟩) else oneRound 0 l b ⟨.over, 0, v, []⟩
        | some q => leapLoop 0 l n ⟨.over, 0 + q * (patternAt l v).length, Vaaclb.after ((Vaacle.beginnings l v.length (patternAt l v)).getLastD []) q v, [] ++ [⟨0, patternAt l v, some q⟩]⟩)
      cases ht : timesOf l (patternAt l v) v with
      | none => simp [shift]
      | some q =>
        cases q with
        | zero =>
          show (if (oneRound k l b ⟨.over, r, v, L⟩).how = .over then leapLoop k l n (oneRound k l b ⟨.over, r, v, L⟩) else oneRound k l b ⟨.over, r, v, L⟩) = shift k r L (if (oneRound 0 l b ⟨.over, 0, v, []⟩).how = .over then leapLoop 0 l n (oneRound 0 l b ⟨.over, 0, v, []⟩) else oneRound 0 l b ⟨.over, 0, v, []⟩)
          have e : ∀ k r L, oneRound k l b ⟨.over, r, v, L⟩ = ⟨if isBeyond (moved (moveOf l b) v) then .beyond else .over, r + 1, moved (moveOf l b) v, L ++ [⟨k, [b], some 1⟩]⟩ := fun _ _ _ => rfl
          rw [e, e]
          cases hb : isBeyond (moved (moveOf l b) v) with
          | true => simp [shift]
          | false =>
            simp only [Bool.false_eq_true, if_false, if_true]
            rw [leapLoop_shift k l n (r + 1), leapLoop_shift 0 l n (0 + 1)]
            simp [shift, Nat.add_assoc]
        | succ q =>
          show leapLoop k l n _ = shift k r L (leapLoop 0 l n _)
          rw [leapLoop_shift k l n (r + _), leapLoop_shift 0 l n (0 + _)]
          simp [shift, Nat.add_assoc]
theorem leapPiece_shift (k r : Nat) (v : Values) (L : List Leap) (p : Piece) : leapPiece k ⟨.over, r, v, L⟩ p = shift k r L (leapPiece 0 ⟨.over, 0, v, []⟩ p) := by
  cases p with
  | move m =>
    show (⟨if isBeyond (moved m v) then How.beyond else .over, r + 1, moved m v, L⟩ : Leapt) = ⟨if isBeyond (moved m v) then How.beyond else .over, r + (0 + 1), moved m v, L ++ []⟩
    rw [List.append_nil]
  | loop l => exact leapLoop_shift k l 12 r v L
/-! ## Run round by round -/
def later (k : Nat) (o : Out) : Out := ⟨o.how, o.values, k + o.rounds⟩
theorem runLoop_later (l : Loop) : ∀ (n : Nat) (s : Values) (k : Nat), runLoop l n s k = later k (runLoop l n s 0)
  | 0, s, k => by
    unfold runLoop
    cases chosen l s <;> simp [later]
  | n + 1, s, k => by
    unfold runLoop
    cases hc : chosen l s with
    | none => simp [later]
    | some i =>
      show (if isBeyond (moved (branchAt l i).move s) then (⟨.beyond, moved (branchAt l i).move s, k + 1⟩ : Out) else runLoop l n (moved (branchAt l i).move s) (k + 1)) = later k (if isBeyond (moved (branchAt l i).move s) then (⟨.beyond, moved (branchAt l i).move s, 0 + 1⟩ : Out) else runLoop l n (moved (branchAt l i).move s) (0 + 1))
      cases isBeyond (moved (branchAt l i).move s) with
      | true => simp [later]
      | false =>
        simp only [Bool.false_eq_true, if_false]
        rw [runLoop_later l n _ (k + 1), runLoop_later l n _ (0 + 1)]
        simp [later, Nat.add_assoc]
theorem runLoop_le (l : Loop) : ∀ (n : Nat) (s : Values), (runLoop l n s 0).rounds ≤ n
  | 0, s => by
    unfold runLoop
    cases chosen l s <;> simp
  | n + 1, s => by
    unfold runLoop
    cases hc : chosen l s with
    | none => simp
    | some i =>
      show (if isBeyond (moved (branchAt l i).move s) then (⟨.beyond, moved (branchAt l i).move s, 0 + 1⟩ : Out) else runLoop l n (moved (branchAt l i).move s) (0 + 1)).rounds ≤ n + 1
      cases isBeyond (moved (branchAt l i).move s) with
      | true => simp
      | false =>
        simp only [Bool.false_eq_true, if_false]
        rw [runLoop_later l n _ (0 + 1)]
        have := runLoop_le l n (moved (branchAt l i).move s)
        show 0 + 1 + _ ≤ n + 1
        omega
theorem runPiece_later (most k : Nat) (s : Values) (p : Piece) (h : k ≤ most) : runPiece most ⟨.over, s, k⟩ p = later k (runPiece (most - k) ⟨.over, s, 0⟩ p) ∧ (runPiece (most - k) ⟨.over, s, 0⟩ p).rounds ≤ most - k := by
  cases p with
  | move m =>
    show (if most ≤ k then (⟨.long, s, k⟩ : Out) else ⟨if isBeyond (moved m s) then .beyond else .over, moved m s, k + 1⟩) = later k (if most - k ≤ 0 then (⟨.long, s, 0⟩ : Out) else ⟨if isBeyond (moved m s) then .beyond else .over, moved m s, 0 + 1⟩) ∧
      (if most - k ≤ 0 then (⟨.long, s, 0⟩ : Out) else ⟨if isBeyond (moved m s) then .beyond else .over, moved m s, 0 + 1⟩).rounds ≤ most - k
    by_cases c : most ≤ k
    · rw [if_pos c, if_pos (show most - k ≤ 0 by omega)]
      exact ⟨rfl, Nat.zero_le _⟩
    · rw [if_neg c, if_neg (show ¬ most - k ≤ 0 by omega)]
      exact ⟨rfl, by show 0 + 1 ≤ most - k; omega⟩
  | loop l => exact ⟨runLoop_later l (most - k) s k, runLoop_le l (most - k) s⟩
end Lp
set_option Elab.async false
set_option maxRecDepth 100000
set_option maxHeartbeats 2000000
namespace L2
open PySem PySem.Spec PyProof.Rows
/-! ## Heaps -/
theorem Same.new {H H' : Hp} {p : Addr} {o : HO} (e : Same H H') (h : H' p = none) : Same H (upd H' p o) := fun b u hb => by
  have h1 := e b u hb
  have : b ≠ p := fun z => by
    rw [z, h] at h1
    cases h1
  rw [upd_ne this]
  exact h1
theorem Same.put {H H' : Hp} {p : Addr} {o : HO} (e : Same H H') (h : H p = none) : Same H (upd H' p o) := fun b u hb => by
  have : b ≠ p := fun z => by
    rw [z, h] at hb
    cases hb
  rw [upd_ne this]
  exact e b u hb
end L2
namespace Lp
open PySem PySem.Spec PyProof.Rows L2
/-- the i-th statement of the program -/
def top (i : Nat) : Stmt := PySem.Challenge.pw_leaptprograms_s01_answers.main.body.getD i (.Pass ⟨0, 0, 0, 0⟩)
/-- a def of the text: where it stands, how its arguments bind, what it promises -/
structure Def (P : Program) (w : World) (K : PySem.W.Frag) (mg : Str → Option Value) (base : Heap) (CX : CXT) (k : Nat) (x : Str) (ps : List Str) (sp : Sp) (f : Addr) (fd : FuncData) : Prop where
  m : mg x = some (.ref f)
  kp : PySem.W.keepIn K (.ref f) = true
  b : Binds K fd ps []
  ok : FnOk P w K mg base CX k f fd ps sp
/-- a list of ints -/
def IsI (H : Hp) (a : Addr) (ns : List Int) : Prop := H a = some (.lst (ns.map V.int))
theorem IsI.same {H H' : Hp} {a : Addr} {ns : List Int} (h : IsI H a ns) (e : Same H H') : IsI H' a ns := e _ _ h
theorem IsI.seq {K : PySem.W.Frag} {H : Hp} {a : Addr} {ns : List Int} (h : IsI H a ns) : SqL K H a (ns.map V.int) := SqL.of h
end Lp
set_option maxHeartbeats 4000000
/-! set(xs) of a list of whole numbers: the library has it of a tuple; turned to a list, by the library's own loop (set_update_ints) -/
namespace L2
open PySem PySem.Spec PyProof.Rows
section
variable {P : Program} {w : World} {A : Around} {E : Value → Shared → Prop} {s : Shared}
abbrev bareSet (w : World) : Obj := { cls := .type "set", dict := none, data := .set #[] 0 (.fresh 0 0 (!w.params.followText "set-order")) }
abbrev withSet (w : World) (s : Shared) : Shared := { s with heap := s.heap.push (bareSet w) }
theorem call_set_ints_of_list {l : Addr} {items : Array Value} (ns : List Int) {Q : Value → Shared → Prop} (noHand : A.handled = none) (isl : s.heap.IsList l items) (areI : IntsAre items.toList ns) (room : ns.length + 1 < scanBound)
    (goal : ∀ (h' : Heap) (tk c : Nat), SetR w h' s.heap.objs.size (fun j => decide (j ∈ ns)) c → c ≤ ns.length → (∀ b o, s.heap.get? b = some o → h'.get? b = some o) → Q (.ref s.heap.objs.size) { s with heap := h', toks := tk }) :
    wpAny (model P w) A (call (.type "set") [.ref l]) Q E s := by
  have lens : items.size = ns.length := (Array.length_toList (xs := items)).symm.trans (IntsAre.length areI)
  have ⟨_, _, hmro⟩ := F.called_set.mro
  have ⟨hmade, hsub⟩ := And.intro F.called_set.made F.called_set.sub
  refine wpAny_call (codeAny_of_tree (?_ : wpAny _ _ (callAny (.type "set") _) _ _ _))
  refine wpAny_pure ⟨Code.quiet_builtin _ (by decide +kernel), codeAny_builtin F.entry_type_call ?_⟩
  rw [Around.under_plain (weight_type_call_type "set" [.ref l] []) rfl]
  have ⟨hnt, hcc⟩ := And.intro F.called_set.notType F.called_set.canCreate
  have hone := F.typeCall_set_1 (.ref l)
  repeat (any_goals (first | assumption | wp_step))
  refine codeAny_mono (code_set_led1 (.ref l) (E := E) (Q₁ := fun obj s₁ => obj = .ref s.heap.objs.size ∧ s₁ = withSet w s) ⟨rfl, rfl⟩) fun r s₁ hr => ?_
  match r, hr with
  | .error e, hr => exact hr
  | .ok (.ret obj), hr =>
    obtain ⟨rfl, rfl⟩ := hr
    have here : (withSet w s).heap.get? s.heap.objs.size = some (bareSet w) := Heap.get?_push_size _ rfl
    have isSet : Shared.TypeIs (withSet w s) (.ref s.heap.objs.size) "set" := ⟨_, here, rfl⟩
    have hinit := F.called_set.init.lookup
    have hbind := F.called_set.init.bind (.ref s.heap.objs.size)
    repeat (any_goals (first | assumption | wp_step))
    refine codeAny_mono (codeAny_call_builtin (R := wants (fun r s₂ => r = .none ∧ ∃ h' tk c, s₂ = { s with heap := h', toks := tk } ∧ SetR w h' s.heap.objs.size (fun j => decide (j ∈ ns)) c ∧ c ≤ ns.length ∧ ∀ b o, s.heap.get? b = some o → h'.get? b = some o) E)
      F.called_set.init.plain F.entry_set_init (check_set_init_1 isSet ?_)) fun r₂ s₂ hr₂ => ?_
    · obtain ⟨⟨ocls, odict, odata, oslots⟩, hol, hcl, nl, hdl⟩ := isl
      simp only at hcl hdl
      subst hcl
      subst hdl
      have hol' := Heap.get?_push_of_some (bareSet w) hol
      have ⟨s1, s2⟩ := And.intro F.sub_list_set F.sub_list_frozenset
      have noDict : (Value.type "list" == Value.type "dict") = false := by decide
      have isl1 : (withSet w s).heap.IsList l items := ⟨_, hol', rfl, nl, rfl⟩
      unfold Builtin.«set.__init__» noKeywords Builtin.Frozenset.updateFrom
      generalize hPI : pyIter = PI
      wp_walk
      subst hPI
      refine wpAny_pyIter_list isl1 (wpAny_bind (wpAny_runValue ?_))
      have below : l < s.heap.objs.size := Heap.lt_size hol
      have size1 : (withSet w s).heap.objs.size = s.heap.objs.size + 1 := Heap.size_push ..
      have calm3 : A.in1.in1.in1.handled = none := by simp [noHand]
      have lne : l ≠ (withSet w s).heap.objs.size := by
        rw [size1]
        exact Nat.ne_of_lt (Nat.lt_succ_of_lt below)
      have apart : s.heap.objs.size ∉ [(withSet w s).heap.objs.size, l] := by
        rw [size1]
        simp only [List.mem_cons, List.not_mem_nil, or_false, not_or]
        exact ⟨Nat.ne_of_lt (Nat.lt_succ_self _), Nat.ne_of_gt below⟩
      have vals : ∀ (i : Nat) (v : Value), items[i]? = some v → ∃ k t, ns[i]? = some k ∧ v = .int k t := fun i v hv => by
        have hi : i < ns.length := lens ▸ (Array.getElem?_eq_some_iff.mp hv).1
        obtain ⟨t, e⟩ := PyProof.Rows.IntsAre.int_at areI i v (Array.getElem?_toList.trans hv)
        exact ⟨ns[i], t, List.getElem?_eq_getElem hi, e.trans (by rw [List.getD_eq_getElem?_getD, List.getElem?_eq_getElem hi] <;> rfl)⟩
      refine set_update_ints ((Walks.list calm3 _ l lne items).toS) s.heap.objs.size apart ns lens room vals (items.size - 0) 0 _ (by omega) (Nat.zero_le _) ⟨⟨_, Heap.get?_push_size _ rfl, rfl, rfl⟩, isl1.push _⟩ ?start ?fin
      case start => exact ⟨0, Nat.le_refl 0, setR_new_at (Heap.get?_push_of_some _ here)⟩
      case fin =>
        intro s' c' moved few isr
        obtain ⟨h', g2, d', tk', os'⟩ := s'
        obtain rfl : g2 = s.gens := moved.gens
        obtain rfl : d' = s.drawn := moved.drawn
        obtain rfl : os' = s.os := moved.os
        refine (?_ : wpAny _ _ _ _ _ _)
        refine wpAny_pure (?_ : wpAny _ _ (ret Value.none) _ _ _)
        rw [lens] at few
        refine wpAny_pure ⟨rfl, h', tk', c', rfl, isr, few, fun b o e => moved.heap b o ?_ (Heap.get?_push_of_some _ (Heap.get?_push_of_some _ e))⟩
        have hb0 := Heap.lt_size e
        simp only [List.mem_cons, List.not_mem_nil, or_false, not_or]
        exact ⟨Nat.ne_of_lt hb0, by rw [size1]; exact Nat.ne_of_lt (Nat.lt_succ_of_lt hb0)⟩
    · match r₂, hr₂ with
      | .error e, hr₂ => exact hr₂
      | .ok (.ret r), hr₂ =>
        obtain ⟨rfl, h', tk, c', rfl, isr, few, keep⟩ := hr₂
        repeat (any_goals (first | assumption | wp_step))
        exact goal _ _ _ isr few keep
      | .ok .next, hr₂ => exact hr₂.elim
      | .ok .brk, hr₂ => exact hr₂.elim
      | .ok .cont, hr₂ => exact hr₂.elim
  | .ok .next, hr => exact hr.elim
  | .ok .brk, hr => exact hr.elim
  | .ok .cont, hr => exact hr.elim
end
section
variable {X : Cx}
/-- set(xs), xs a list of whole numbers -/
def rSetInts (K : PySem.W.Frag) (w : World) : List V → Hp → VK → Prop := fun xs H Q => ∃ (l : Addr) (ns : List Int), xs = [V.ref l] ∧ SqL K H l (ns.map V.int) ∧ ns.length < 1000 ∧
  ∀ (p : Addr) (n : Nat), n ≤ ns.length → H p = none → Q (.ref p) (upd H p (SetO w p (fun j => decide (j ∈ ns)) n))
theorem ints_of_vals2 : ∀ {ns : List Int} {us : List Value}, Vals (ns.map V.int) us → IntsAre us ns
  | [], _, .nil => .nil
  | n :: k, _, .cons r t => by
    obtain ⟨tk, rfl⟩ := r
    exact .cons n tk (ints_of_vals2 t)
theorem cr_setInts (hc : X.calm = true) : CallR X (.type "set") (rSetInts X.K X.w) := by
  intro pins s σ H xs us Q I r h
  obtain ⟨l, ns, rfl, hl, few, q⟩ := h
  rw [Vals.ref1 r]
  obtain ⟨its, rv, pl, _⟩ := I.list hl
  refine call_set_ints_of_list ns (I.ok.hd hc) pl.isList (by simpa using ints_of_vals2 rv) (by unfold scanBound; omega) fun h' tk c R hcn k => ?_
  exact ⟨.ref s.heap.objs.size, upd H s.heap.objs.size (SetO X.w s.heap.objs.size (fun j => decide (j ∈ ns)) c), I.laid (t' := tk) k (Nat.le_refl _) (setO_new R), rfl, q _ c hcn (I.hok.fresh (Nat.le_refl _))⟩
end
end L2
set_option maxHeartbeats 2000000
/-! xs[i] read for xs[i] op= e: nothing in the modules reads a list for it -/
namespace L2
open PySem PySem.Spec PyProof.Rows
section
variable {X : Cx}
def rGetL : V → V → Hp → VK → Prop := fun o i H Q => ∃ p xs j v, o = .ref p ∧ i = .int ((j : Nat) : Int) ∧ H p = some (.lst xs) ∧ xs[j]? = some v ∧ j < 1000 ∧ Q v H
theorem get_list : PGet X rGetL := by
  intro pins s σ H o i ov iv Q I ro ri h
  obtain ⟨p, xs, j, v, rfl, rfl, hp, hv, hj, q⟩ := h
  cases ro
  obtain ⟨t, rfl⟩ := ri
  obtain ⟨its, r, pl, hz⟩ := I.list (SqL.of hp)
  obtain ⟨u, eu, ru⟩ := r.get hv
  have hn := line63
  refine wpAny_getItem_list pl.isList (by omega) (by omega) (x := u) (by simpa using eu) ⟨v, H, I, ru, q⟩
end
end L2
namespace Lp
open PySem PySem.Spec PyProof.Rows L2
open VaaclBase (Values valueAt)
abbrev GivenT := VaaclBase.Given
abbrev MoveT := VaaclBase.Move
abbrev TestT := VaaclBase.Test
abbrev BranchT := VaaclBase.Branch
abbrev LoopT := VaaclBase.Loop
abbrev PieceT := VaaclBase.Piece
abbrev ProgT := VaaclBase.Program
/-! ## What the objects hold -/
def Each {A B : Type} (R : A → B → Prop) : List A → List B → Prop
  | [], [] => True
  | a :: l, b :: r => R a b ∧ Each R l r
  | _, _ => False
theorem Each.length {A B : Type} {R : A → B → Prop} : ∀ {l : List A} {r : List B}, Each R l r → l.length = r.length
  | [], [], _ => rfl
  | _ :: l, _ :: r, h => by
    rw [List.length_cons, List.length_cons, Each.length h.2]
  | [], _ :: _, h => h.elim
  | _ :: _, [], h => h.elim
theorem Each.get {A B : Type} {R : A → B → Prop} : ∀ {l : List A} {r : List B} {i : Nat} {a : A}, Each R l r → l[i]? = some a → ∃ b, r[i]? = some b ∧ R a b
  | [], [], i, a, _, h => by simp at h
  | x :: l, y :: r, 0, a, e, h => by
    cases h
    exact ⟨y, rfl, e.1⟩
  | x :: l, y :: r, i + 1, a, e, h => Each.get (l := l) (r := r) e.2 h
  | [], _ :: _, _, _, h, _ => h.elim
  | _ :: _, [], _, _, h, _ => h.elim
theorem Each.back {A B : Type} {R : A → B → Prop} : ∀ {l : List A} {r : List B} {i : Nat} {b : B}, Each R l r → r[i]? = some b → ∃ a, l[i]? = some a ∧ R a b
  | [], [], i, a, _, h => by simp at h
  | x :: l, y :: r, 0, a, e, h => by
    cases h
    exact ⟨x, rfl, e.1⟩
  | x :: l, y :: r, i + 1, a, e, h => Each.back (l := l) (r := r) e.2 h
  | [], _ :: _, _, _, h, _ => h.elim
  | _ :: _, [], _, _, h, _ => h.elim
theorem Each.mono {A B : Type} {R S : A → B → Prop} (f : ∀ a b, R a b → S a b) : ∀ {l : List A} {r : List B}, Each R l r → Each S l r
  | [], [], _ => trivial
  | _ :: _, _ :: _, h => ⟨f _ _ h.1, Each.mono f h.2⟩
  | [], _ :: _, h => h.elim
  | _ :: _, [], h => h.elim
theorem Each.snoc {A B : Type} {R : A → B → Prop} {a : A} {b : B} (h : R a b) : ∀ {l : List A} {r : List B}, Each R l r → Each R (l ++ [a]) (r ++ [b])
  | [], [], _ => ⟨h, trivial⟩
  | _ :: _, _ :: _, e => ⟨e.1, Each.snoc h e.2⟩
  | [], _ :: _, h => h.elim
  | _ :: _, [], h => h.elim
/-- a list of objects -/
def ListAt {B : Type} (R : Hp → Addr → B → Prop) (H : Hp) (a : Addr) (xs : List B) : Prop := ∃ ts : List Addr, H a = some (.lst (ts.map V.ref)) ∧ Each (R H) ts xs
theorem ListAt.same {B : Type} {R : Hp → Addr → B → Prop} {H H' : Hp} (mono : ∀ t x, R H t x → R H' t x) {a : Addr} {xs : List B} (e : Same H H') : ListAt R H a xs → ListAt R H' a xs
  | ⟨ts, h, q⟩ => ⟨ts, e _ _ h, q.mono mono⟩
def GivenAt (H : Hp) (t : Addr) (g : GivenT) : Prop := H t = some (.tup [.int (VaaclBase.orNone g.source), .int g.add])
def MoveAt : Hp → Addr → MoveT → Prop := ListAt GivenAt
theorem MoveAt.same {H H' : Hp} {a : Addr} {m : MoveT} (h : MoveAt H a m) (e : Same H H') : MoveAt H' a m := ListAt.same (fun _ _ q => e _ _ q) e h
theorem map_get {A B : Type} {f : A → B} {l : List A} {i : Nat} {y : B} (h : (l.map f)[i]? = some y) : ∃ x, l[i]? = some x ∧ f x = y := by
  rw [List.getElem?_map] at h
  cases e : l[i]? with
  | none =>
    rw [e] at h
    cases h
  | some x =>
    rw [e] at h
    exact ⟨x, rfl, Option.some.inj h⟩
theorem take_more {A : Type} : ∀ {l : List A} {i : Nat} {x : A}, l[i]? = some x → l.take (i + 1) = l.take i ++ [x]
  | [], i, x, h => by simp at h
  | a :: l, 0, x, h => by
    have e : a = x := Option.some.inj h
    subst e
    rfl
  | a :: l, i + 1, x, h => by
    have ih := take_more (l := l) (i := i) (x := x) h
    show a :: l.take (i + 1) = a :: l.take i ++ [x]
    rw [ih]
    rfl
theorem sizeOk {n : Nat} (h : n ≤ 100000) : n < sizeLine := Nat.lt_of_le_of_lt h (by decide)
theorem sizeOk' {n : Nat} (h : n ≤ 100000) : n ≤ sizeLine := Nat.le_trans h (by decide)
theorem valueAt_int {s : Values} {i : Nat} (h : i < s.length) : (s.map V.int)[i]? = some (.int (valueAt s i)) := by
  rw [List.getElem?_map, List.getElem?_eq_getElem h, valueAt_lt h]
  rfl
/-- a test's four numbers -/
def test4 : TestT → List Int
  | .atMost x c => [0, (x : Int), c, 0]
  | .atLeast x c => [1, (x : Int), c, 0]
  | .below x y c => [2, (x : Int), (y : Int), c]
  | .rem x m r => [3, (x : Int), (m : Int), (r : Int)]
def TestAt (H : Hp) (t : Addr) (x : TestT) : Prop := H t = some (.tup ((test4 x).map V.int))
def BranchAt (H : Hp) (t : Addr) (b : BranchT) : Prop := ∃ g m : Addr, H t = some (.tup [.ref g, .ref m]) ∧ ListAt TestAt H g b.guard ∧ MoveAt H m b.move
def LoopAt : Hp → Addr → LoopT → Prop := ListAt BranchAt
def PieceAt (H : Hp) (t : Addr) : PieceT → Prop
  | .move m => ∃ a e : Addr, H t = some (.tup [.int 0, .ref a, .ref e]) ∧ MoveAt H a m
  | .loop l => ∃ e a : Addr, H t = some (.tup [.int 1, .ref e, .ref a]) ∧ LoopAt H a l
def ProgAt (H : Hp) (t : Addr) (p : ProgT) : Prop := ∃ a : Addr, H t = some (.tup [.int (p.counters : Int), .ref a]) ∧ ListAt PieceAt H a p.pieces
theorem TestAt.same {H H' : Hp} {a : Addr} {x : TestT} (h : TestAt H a x) (e : Same H H') : TestAt H' a x := e _ _ h
theorem TestsAt.same {H H' : Hp} {a : Addr} {g : List TestT} (h : ListAt TestAt H a g) (e : Same H H') : ListAt TestAt H' a g := ListAt.same (fun _ _ q => e _ _ q) e h
theorem BranchAt.same {H H' : Hp} {a : Addr} {b : BranchT} (h : BranchAt H a b) (e : Same H H') : BranchAt H' a b := by
  obtain ⟨g, m, h1, h2, h3⟩ := h
  exact ⟨g, m, e _ _ h1, TestsAt.same h2 e, MoveAt.same h3 e⟩
theorem LoopAt.same {H H' : Hp} {a : Addr} {l : LoopT} (h : LoopAt H a l) (e : Same H H') : LoopAt H' a l := ListAt.same (fun _ _ q => q.same e) e h
theorem PieceAt.same {H H' : Hp} {a : Addr} {p : PieceT} (h : PieceAt H a p) (e : Same H H') : PieceAt H' a p := by
  cases p with
  | move m =>
    obtain ⟨x, y, h1, h2⟩ := h
    exact ⟨x, y, e _ _ h1, MoveAt.same h2 e⟩
  | loop l =>
    obtain ⟨x, y, h1, h2⟩ := h
    exact ⟨x, y, e _ _ h1, LoopAt.same h2 e⟩
theorem ProgAt.same {H H' : Hp} {a : Addr} {p : ProgT} (h : ProgAt H a p) (e : Same H H') : ProgAt H' a p := by
  obtain ⟨x, h1, h2⟩ := h
  exact ⟨x, e _ _ h1, ListAt.same (fun _ _ q => PieceAt.same q e) e h2⟩
/-- well formed: all that the reader sees to -/
def GoodB (n : Nat) (b : BranchT) : Prop := OkM n b.move ∧ b.guard.length ≤ 3 ∧ ∀ t ∈ b.guard, VaaclBase.okTest n t = true
def GoodL (n : Nat) (l : LoopT) : Prop := l ≠ [] ∧ l.length ≤ 3 ∧ ∀ b ∈ l, GoodB n b
theorem GoodL.ok {n : Nat} {l : LoopT} (h : GoodL n l) : OkL n l := fun b hb => ⟨(h.2.2 b hb).1, fun t ht => by
  have g := (h.2.2 b hb).2.2 t ht
  cases t with
  | rem x m r =>
    unfold VaaclBase.okTest at g
    rw [Bool.and_eq_true, Bool.and_eq_true] at g
    exact List.contains_iff_mem.mp g.2.1
  | _ => trivial⟩
theorem GoodL.at_ {n : Nat} {l : LoopT} (h : GoodL n l) {b : Nat} (hb : b < l.length) : GoodB n (VaaclBase.branchAt l b) := h.2.2 _ (branchAt_mem hb)
theorem branchAt_get {l : LoopT} {b : Nat} (hb : b < l.length) : l[b]? = some (VaaclBase.branchAt l b) := by
  unfold VaaclBase.branchAt
  rw [List.getElem?_eq_getElem hb]
  rfl
/-! ## Names of the module -/
structure NamesOf (mg : Str → Option Value) : Prop where
  len : mg "len" = none
  range : mg "range" = none
  enumerate : mg "enumerate" = none
  sorted : mg "sorted" = none
  set : mg "set" = none
  FAR : ∃ t, mg "FAR" = some (.int 1000000000000 t)
  AHEAD : ∃ t, mg "AHEAD" = some (.int 6 t)
  SETTLED : ∃ t, mg "SETTLED" = some (.int 4 t)
  MOST_LEAPS : ∃ t, mg "MOST_LEAPS" = some (.int 12 t)
  MOST_ROUNDS : ∃ t, mg "MOST_ROUNDS" = some (.int 2000 t)
  NEAR : ∃ t, mg "NEAR" = some (.int 1000000 t)
  MOST_INPUTS : ∃ t, mg "MOST_INPUTS" = some (.int 16 t)
theorem pe_gint {X : Cx} {x : Str} {pos : Pos} {i : Int} (hg : Gl X x) (h : ∃ t, X.mg x = some (.int i t)) (hd : (x == ("__debug__" : Str)) = false := by decide) : PE X (.Name x pos) (tC (.int i)) := by
  obtain ⟨t, h⟩ := h
  exact pe_glob (v := .int i) hg h ⟨_, rfl⟩ hd
/-- tests that are known -/
theorem tru {c : Bool} {A B : Prop} (hc : c = true) (h : A) : if c = true then A else B := by
  rw [if_pos hc]
  exact h
theorem fls {c : Bool} {A B : Prop} (hc : c = false) (h : B) : if c = true then A else B := by
  rw [hc, if_neg Bool.false_ne_true]
  exact h
end Lp
namespace Lp
open PySem PySem.Spec PyProof.Rows L2
open VaaclBase (Values valueAt)
/-! ## moved -/
abbrev sMoved : Stmt := top 2
theorem scMoved : FnScope ["move", "values", "after", "source", "number"] ["move", "values"] (defScope sMoved) := ⟨rfl, rfl, rfl, by decide +kernel, rfl, by decide +kernel, by decide +kernel⟩
def spMoved : Sp := fun vs H Q _ => ∃ (a b : Addr) (m : MoveT) (s : Values), vs = [.ref a, .ref b] ∧ MoveAt H a m ∧ IsI H b s ∧ OkM s.length m ∧ s.length ≤ 4 ∧
  ∀ (H' : Hp) (p : Addr), Same H H' → H p = none → IsI H' p (VaaclBase.moved m s) → Q (.ref p) H'
section
variable {P : Program} {w : World} {K : PySem.W.Frag} {mg : Str → Option Value} {base : Heap}
theorem ok_moved {f : Addr} {fd : FuncData} (F : Fun K "moved" "moved" sMoved f fd) : FnOk P w K mg base CX0 1 f fd ["move", "values"] spMoved := by
  refine F.ok scMoved (fun vs H Q E h => ?_) (fun cdv A outer s H vs Q E hr h => ⟨_, pss_cons (ps_set (i := 2) scMoved.nd rfl (.inl rfl) (pe_lst pa_nil)) (pss_cons (ps_for PassesOwn.never rfl (pi_list (pv 0)) (pg_tup rfl (pgs_cons (pg_name (i := 3) scMoved.nd rfl (.inl rfl)) (pgs_cons (pg_name (i := 4) scMoved.nd rfl (.inl rfl)) pgs_nil))) (pss_one (ps_if (pt_cmp (pc_lt (pv 3) pe_int)) (pss_one (ps_expr (pe_bm PySem.F.plainAttrs_list PySem.F.slot_list_append PySem.F.type_list_append mt_append (pv 2) (pa_cons (pv 4) pa_nil)))) (pss_one (ps_expr (pe_bm PySem.F.plainAttrs_list PySem.F.slot_list_append PySem.F.type_list_append mt_append (pv 2) (pa_cons (pe_op op_add (pe_ix ix_list (pv 1) (pv 3) (fun _ _ => rfl)) (pv 4)) pa_nil))))))) (pss_one (ps_ret (pv 2)))), ?_⟩)
  · obtain ⟨a, b, m, s, rfl, _⟩ := h
    rfl
  · obtain ⟨a, b, m, s, rfl, ⟨ts, ha, et⟩, hb, okm, h4, k⟩ := h
    refine ⟨by show 0 ≤ sizeLine; decide, fun l hl => ?_⟩
    have e0 : Same H (upd H l (.lst [])) := (Same.refl H).new hl
    refine ⟨_, rfl, a, rfl, ⟨_, SqL.of (e0 _ _ ha)⟩, for_list (K := K) (a := a) (xs := ts.map V.ref) (fun i σ H' => ∃ v1 v2 : Option V, σ = [some (.ref a), some (.ref b), some (.ref l), v1, v2] ∧ Same H H' ∧ IsI H' l (VaaclBase.moved (m.take i) s))
      ⟨none, none, rfl, e0, upd_same⟩ (fun i σ H' _ ⟨_, _, _, e, _⟩ => SqL.of (e _ _ ha)) ?_ ?_⟩
    · rintro i y σ H' hi ⟨v1, v2, rfl, e, hL⟩
      obtain ⟨t, ht, rfl⟩ := map_get hi
      obtain ⟨g, hg, hG⟩ := et.get ht
      refine ⟨t, _, rfl, SqT.of (e _ _ hG), rfl, _, _, rfl, _, _, rfl, rfl, _, rfl, _, _, rfl, rfl, _, rfl, ?_⟩
      have fin : ∀ z : Int, z = VaaclBase.given s g → IsI (upd H' l (.lst ((VaaclBase.moved (m.take i) s).map V.int ++ [.int z]))) l (VaaclBase.moved (m.take (i + 1)) s) := by
        intro z hz
        unfold IsI
        rw [upd_same, take_more hg, hz]
        unfold VaaclBase.moved
        rw [List.map_append, List.map_append]
        rfl
      have hlen : (List.map V.int (VaaclBase.moved (m.take i) s)).length < sizeLine := by
        rw [List.length_map, moved_length, List.length_take]
        exact sizeOk (by have := okm.1; omega)
      by_cases c : VaaclBase.orNone g.source < 0
      · refine tru (decide_eq_true c) ?_
        refine ⟨_, rfl, .inl ⟨rfl, _, SqL.of hL⟩, _, rfl, l, _, _, rfl, rfl, hL, hlen, _, _, rfl, e.put hl, fin _ ?_⟩
        have := orNone_neg c
        unfold VaaclBase.given
        rw [this]
        show g.add = 0 + g.add
        omega
      · refine fls (decide_eq_false c) ?_
        obtain ⟨j, hj⟩ : ∃ j, g.source = some j := by
          cases q : g.source with
          | none =>
            rw [q] at c
            exact absurd (show (-1 : Int) < 0 by omega) c
          | some j => exact ⟨j, rfl⟩
        have hjs := okm.2 g (List.mem_of_getElem? hg) j hj
        have hjo : VaaclBase.orNone g.source = ((j : Nat) : Int) := by
          rw [hj]
          rfl
        rw [hjo]
        refine ⟨_, rfl, .inl ⟨rfl, _, SqL.of hL⟩, _, rfl, _, rfl, b, _, _, _, rfl, rfl, SqL.of (e _ _ hb), atI_nat (valueAt_int hjs), _, rfl, _, _, rfl, rfl, l, _, _, rfl, rfl, hL, hlen, _, _, rfl, e.put hl, fin _ ?_⟩
        unfold VaaclBase.given
        rw [hj]
        rfl
    · rintro σ H' ⟨v1, v2, rfl, e, hL⟩
      refine ⟨_, rfl, k _ _ e hl ?_⟩
      rw [List.length_map, et.length, List.take_length] at hL
      exact hL


/-! ## is_beyond -/
abbrev sIsBeyond : Stmt := top 3
theorem scIsBeyond : FnScope ["values", "value"] ["values"] (defScope sIsBeyond) := ⟨rfl, rfl, rfl, by decide +kernel, rfl, by decide +kernel, by decide +kernel⟩
def spIsBeyond : Sp := fun vs H Q _ => ∃ (b : Addr) (s : Values), vs = [.ref b] ∧ IsI H b s ∧ ∀ H' : Hp, Same H H' → Q (.bl (VaaclBase.isBeyond s)) H'
def farV (v : Int) : Bool := decide (v < -VaaclBase.NUMBER) || decide (VaaclBase.NUMBER < v)
theorem ok_is_beyond (G : NamesOf mg) {f : Addr} {fd : FuncData} (F : Fun K "is_beyond" "is_beyond" sIsBeyond f fd) : FnOk P w K mg base CX0 1 f fd ["values"] spIsBeyond := by
  refine F.ok scIsBeyond (fun vs H Q E h => ?_) (fun cdv A outer s H vs Q E hr h => ⟨_, pss_cons (ps_for PassesOwn.never rfl (pi_list (pv 0)) (pg_name (i := 1) scIsBeyond.nd rfl (.inl rfl)) (pss_one (ps_if (PW.pt (pw_or (pt_cmp (pc_gt (pv 1) (pe_gint rfl G.FAR))) (pw_or1 (pt_cmp (pc_lt (pv 1) (pe_un un_neg (pe_gint rfl G.FAR))))))) (pss_one (ps_ret pe_bl)) pss_nil))) (pss_one (ps_ret pe_bl)), ?_⟩)
  · obtain ⟨b, s, rfl, _⟩ := h
    rfl
  · obtain ⟨b, s, rfl, hb, k⟩ := h
    refine ⟨_, rfl, b, rfl, ⟨_, SqL.of hb⟩, for_list (K := K) (a := b) (xs := s.map V.int) (fun i σ H' => (∃ v : Option V, σ = [some (.ref b), v]) ∧ Same H H' ∧ (s.take i).any farV = false)
      ⟨⟨none, rfl⟩, Same.refl H, rfl⟩ (fun i σ H' _ ⟨_, e, _⟩ => SqL.of (e _ _ hb)) ?_ ?_⟩
    · rintro i y σ H' hi ⟨⟨v, rfl⟩, e, hn⟩
      obtain ⟨z, hz, rfl⟩ := map_get hi
      refine ⟨_, rfl, _, _, rfl, rfl, _, rfl, ?_⟩
      have whole : farV z = true → VaaclBase.isBeyond s = true := fun c => by
        unfold VaaclBase.isBeyond
        rw [List.any_eq_true]
        exact ⟨z, List.mem_of_getElem? hz, c⟩
      by_cases c : z > 1000000000000
      · refine tru (decide_eq_true c) (tru rfl ?_)
        have := k H' e
        rw [whole (by unfold farV; rw [Bool.or_eq_true]; exact .inr (decide_eq_true c))] at this
        exact this
      · refine fls (decide_eq_false c) ?_
        refine ⟨_, rfl, _, rfl, _, _, rfl, rfl, _, rfl, ?_⟩
        by_cases d : z < -1000000000000
        · refine tru (decide_eq_true d) ?_
          have := k H' e
          rw [whole (by unfold farV; rw [Bool.or_eq_true]; exact .inl (decide_eq_true d))] at this
          exact this
        · refine fls (decide_eq_false d) ?_
          refine ⟨⟨_, rfl⟩, e, ?_⟩
          rw [take_more hz, List.any_append, hn]
          show (false || (farV z || false)) = false
          unfold farV
          rw [decide_eq_false (show ¬ z < -VaaclBase.NUMBER from d), decide_eq_false (show ¬ VaaclBase.NUMBER < z from c)]
          rfl
    · rintro σ H' ⟨⟨v, rfl⟩, e, hn⟩
      have := k H' e
      rw [List.length_map, List.take_length] at hn
      rw [show VaaclBase.isBeyond s = false from hn] at this
      exact this
/-! ## holds -/
abbrev sHolds : Stmt := top 4
theorem scHolds : FnScope ["test", "values", "kind", "counter", "a", "b"] ["test", "values"] (defScope sHolds) := ⟨rfl, rfl, rfl, by decide +kernel, rfl, by decide +kernel, by decide +kernel⟩
def spHolds : Sp := fun vs H Q _ => ∃ (a b : Addr) (t : TestT) (s : Values), vs = [.ref a, .ref b] ∧ TestAt H a t ∧ IsI H b s ∧ VaaclBase.okTest s.length t = true ∧ ∀ H' : Hp, Same H H' → Q (.bl (VaaclBase.holds s t)) H'
theorem ok_holds {f : Addr} {fd : FuncData} (F : Fun K "holds" "holds" sHolds f fd) : FnOk P w K mg base CX0 1 f fd ["test", "values"] spHolds := by
  refine F.ok scHolds (fun vs H Q E h => ?_) (fun cdv A outer s H vs Q E hr h => ⟨_, pss_cons (ps_asg (pv 0) (pg_tup rfl (pgs_cons (pg_name (i := 2) scHolds.nd rfl (.inl rfl)) (pgs_cons (pg_name (i := 3) scHolds.nd rfl (.inl rfl)) (pgs_cons (pg_name (i := 4) scHolds.nd rfl (.inl rfl)) (pgs_cons (pg_name (i := 5) scHolds.nd rfl (.inl rfl)) pgs_nil)))))) (pss_cons (ps_if (pt_cmp (pc_eqI (pv 2) pe_int)) (pss_one (ps_ret (pe_cmp (pc_le (pe_ix ix_list (pv 1) (pv 3) (fun _ _ => rfl)) (pv 4))))) pss_nil) (pss_cons (ps_if (pt_cmp (pc_eqI (pv 2) pe_int)) (pss_one (ps_ret (pe_cmp (pc_ge (pe_ix ix_list (pv 1) (pv 3) (fun _ _ => rfl)) (pv 4))))) pss_nil) (pss_cons (ps_if (pt_cmp (pc_eqI (pv 2) pe_int)) (pss_one (ps_ret (pe_cmp (pc_le (pe_ix ix_list (pv 1) (pv 3) (fun _ _ => rfl)) (pe_op op_add (pe_ix ix_list (pv 1) (pv 4) (fun _ _ => rfl)) (pv 5)))))) pss_nil) (pss_one (ps_ret (pe_cmp (pc_eqI (pe_op op_modN (pe_ix ix_list (pv 1) (pv 3) (fun _ _ => rfl)) (pv 4)) (pv 5)))))))), ?_⟩)
  · obtain ⟨a, b, t, s, rfl, _⟩ := h
    rfl
  · obtain ⟨a, b, t, s, rfl, ha, hb, ok, k⟩ := h
    have k := k H (Same.refl H)
    cases t with
    | atMost x c =>
      unfold VaaclBase.okTest at ok
      rw [Bool.and_eq_true, decide_eq_true_eq] at ok
      refine ⟨_, rfl, a, _, rfl, SqT.of ha, rfl, _, _, rfl, _, _, rfl, _, _, rfl, _, _, rfl, rfl, _, rfl, _, _, rfl, rfl, _, rfl, tru rfl ?_⟩
      refine ⟨_, rfl, _, rfl, b, _, _, _, rfl, rfl, SqL.of hb, atI_nat (valueAt_int ok.1), _, rfl, _, _, rfl, rfl, k⟩
    | atLeast x c =>
      unfold VaaclBase.okTest at ok
      rw [Bool.and_eq_true, decide_eq_true_eq] at ok
      refine ⟨_, rfl, a, _, rfl, SqT.of ha, rfl, _, _, rfl, _, _, rfl, _, _, rfl, _, _, rfl, rfl, _, rfl, _, _, rfl, rfl, _, rfl, fls rfl ?_⟩
      refine ⟨_, rfl, _, _, rfl, rfl, _, rfl, tru rfl ?_⟩
      refine ⟨_, rfl, _, rfl, b, _, _, _, rfl, rfl, SqL.of hb, atI_nat (valueAt_int ok.1), _, rfl, _, _, rfl, rfl, k⟩
    | below x y c =>
      unfold VaaclBase.okTest at ok
      rw [Bool.and_eq_true, Bool.and_eq_true, decide_eq_true_eq, decide_eq_true_eq] at ok
      refine ⟨_, rfl, a, _, rfl, SqT.of ha, rfl, _, _, rfl, _, _, rfl, _, _, rfl, _, _, rfl, rfl, _, rfl, _, _, rfl, rfl, _, rfl, fls rfl ?_⟩
      refine ⟨_, rfl, _, _, rfl, rfl, _, rfl, fls rfl ?_⟩
      refine ⟨_, rfl, _, _, rfl, rfl, _, rfl, tru rfl ?_⟩
      refine ⟨_, rfl, _, rfl, b, _, _, _, rfl, rfl, SqL.of hb, atI_nat (valueAt_int ok.1), _, rfl, _, rfl, b, _, _, _, rfl, rfl, SqL.of hb, atI_nat (valueAt_int ok.2.1), _, rfl, _, _, rfl, rfl, _, _, rfl, rfl, k⟩
    | rem x m r =>
      unfold VaaclBase.okTest at ok
      rw [Bool.and_eq_true, Bool.and_eq_true, decide_eq_true_eq, decide_eq_true_eq] at ok
      have hm : m ≠ 0 := by omega
      refine ⟨_, rfl, a, _, rfl, SqT.of ha, rfl, _, _, rfl, _, _, rfl, _, _, rfl, _, _, rfl, rfl, _, rfl, _, _, rfl, rfl, _, rfl, fls rfl ?_⟩
      refine ⟨_, rfl, _, _, rfl, rfl, _, rfl, fls rfl ?_⟩
      refine ⟨_, rfl, _, _, rfl, rfl, _, rfl, fls rfl ?_⟩
      refine ⟨_, rfl, _, rfl, b, _, _, _, rfl, rfl, SqL.of hb, atI_nat (valueAt_int ok.1), _, rfl, _, _, rfl, rfl, by omega, _, rfl, _, _, rfl, rfl, ?_⟩
      have e1 : VaaclBase.holds s (.rem x m r) = decide ((valueAt s x).fmod (m : Int) = (r : Int)) := by
        show (valueAt s x % (m : Int) == (r : Int)) = _
        rw [Int.fmod_eq_emod_of_nonneg _ (by omega), Bool.eq_iff_iff, beq_iff_eq, decide_eq_true_eq]
      rw [e1] at k
      exact k
/-! ## all_hold -/
abbrev sAllHold : Stmt := top 5
theorem scAllHold : FnScope ["tests", "values", "test"] ["tests", "values"] (defScope sAllHold) := ⟨rfl, rfl, rfl, by decide +kernel, rfl, by decide +kernel, by decide +kernel⟩
def spAllHold : Sp := fun vs H Q _ => ∃ (a b : Addr) (g : List TestT) (s : Values), vs = [.ref a, .ref b] ∧ ListAt TestAt H a g ∧ IsI H b s ∧ (∀ t ∈ g, VaaclBase.okTest s.length t = true) ∧ ∀ H' : Hp, Same H H' → Q (.bl (VaaclBase.allHold s g)) H'
theorem ok_all_hold {fh : Addr} {fdh : FuncData} (DHolds : Def P w K mg base CX0 1 "holds" ["test", "values"] spHolds fh fdh)
    {f : Addr} {fd : FuncData} (F : Fun K "all_hold" "all_hold" sAllHold f fd) : FnOk P w K mg base CX0 2 f fd ["tests", "values"] spAllHold := by
  refine F.ok scAllHold (fun vs H Q E h => ?_) (fun cdv A outer s H vs Q E hr h => ⟨_, pss_cons (ps_for PassesOwn.never rfl (pi_list (pv 0)) (pg_name (i := 2) scAllHold.nd rfl (.inl rfl)) (pss_one (ps_if (pt_not (pt_val (pe_call DHolds.ok (hr.mono (by decide)) rfl DHolds.m DHolds.kp DHolds.b .nil pass0 (pa_cons (pv 2) (pa_cons (pv 1) pa_nil))))) (pss_one (ps_ret pe_bl)) pss_nil))) (pss_one (ps_ret pe_bl)), ?_⟩)
  · obtain ⟨a, b, g, s, rfl, _⟩ := h
    rfl
  · obtain ⟨a, b, g, s, rfl, ⟨ts, ha, et⟩, hb, ok, k⟩ := h
    refine ⟨_, rfl, a, rfl, ⟨_, SqL.of ha⟩, for_list (K := K) (a := a) (xs := ts.map V.ref) (fun i σ H' => (∃ v : Option V, σ = [some (.ref a), some (.ref b), v]) ∧ Same H H' ∧ VaaclBase.allHold s (g.take i) = true)
      ⟨⟨none, rfl⟩, Same.refl H, rfl⟩ (fun i σ H' _ ⟨_, e, _⟩ => SqL.of (e _ _ ha)) ?_ ?_⟩
    · rintro i y σ H' hi ⟨⟨v, rfl⟩, e, hn⟩
      obtain ⟨t, ht, rfl⟩ := map_get hi
      obtain ⟨x, hx, hX⟩ := et.get ht
      refine ⟨_, rfl, _, rfl, t, b, x, s, rfl, hX.same e, hb.same e, ok x (List.mem_of_getElem? hx), fun H2 e2 => ⟨_, rfl, ?_⟩⟩
      cases c : VaaclBase.holds s x with
      | true =>
        refine fls rfl ⟨⟨_, rfl⟩, e.trans e2, ?_⟩
        rw [take_more hx]
        unfold VaaclBase.allHold at hn ⊢
        rw [List.all_append, hn]
        show (true && (VaaclBase.holds s x && true)) = true
        rw [c]
        rfl
      | false =>
        refine tru rfl ?_
        have := k H2 (e.trans e2)
        rw [show VaaclBase.allHold s g = false by
          unfold VaaclBase.allHold
          rw [List.all_eq_false]
          exact ⟨x, List.mem_of_getElem? hx, by rw [c]; exact Bool.false_ne_true⟩] at this
        exact this
    · rintro σ H' ⟨⟨v, rfl⟩, e, hn⟩
      have := k H' e
      rw [List.length_map, et.length, List.take_length] at hn
      rw [hn] at this
      exact this
/-! ## chosen -/
abbrev sChosen : Stmt := top 6
theorem scChosen : FnScope ["branches", "values", "at", "tests", "move"] ["branches", "values"] (defScope sChosen) := ⟨rfl, rfl, rfl, by decide +kernel, rfl, by decide +kernel, by decide +kernel⟩
def spChosen : Sp := fun vs H Q _ => ∃ (a b : Addr) (l : LoopT) (s : Values), vs = [.ref a, .ref b] ∧ LoopAt H a l ∧ IsI H b s ∧ GoodL s.length l ∧ ∀ H' : Hp, Same H H' → Q (.int (VaaclBase.orNone (VaaclBase.chosen l s))) H'
theorem ok_chosen (G : NamesOf mg) {fh : Addr} {fdh : FuncData} (DAllHold : Def P w K mg base CX0 2 "all_hold" ["tests", "values"] spAllHold fh fdh)
    {f : Addr} {fd : FuncData} (F : Fun K "chosen" "chosen" sChosen f fd) : FnOk P w K mg base CX0 3 f fd ["branches", "values"] spChosen := by
  refine F.ok scChosen (fun vs H Q E h => ?_) (fun cdv A outer s H vs Q E hr h => ⟨_, pss_cons (ps_for PassesOwn.never rfl (pi_enum (by rfl) G.enumerate (pa_cons (pv 0) pa_nil)) (pg_tup rfl (pgs_cons (pg_name (i := 2) scChosen.nd rfl (.inl rfl)) (pgs_cons (pg_tup rfl (pgs_cons (pg_name (i := 3) scChosen.nd rfl (.inl rfl)) (pgs_cons (pg_name (i := 4) scChosen.nd rfl (.inl rfl)) pgs_nil))) pgs_nil))) (pss_one (ps_if (pt_val (pe_call DAllHold.ok (hr.mono (by decide)) rfl DAllHold.m DAllHold.kp DAllHold.b .nil pass0 (pa_cons (pv 3) (pa_cons (pv 1) pa_nil)))) (pss_one (ps_ret (pv 2))) pss_nil))) (pss_one (ps_ret (pe_un un_neg pe_int))), ?_⟩)
  · obtain ⟨a, b, l, s, rfl, _⟩ := h
    rfl
  · obtain ⟨a, b, l, s, rfl, ⟨ts, ha, et⟩, hb, ok, k⟩ := h
    refine ⟨_, rfl, a, _, rfl, SqL.of ha, for_it walk_enum (fun i σ H' => (∃ v1 v2 v3 : Option V, σ = [some (.ref a), some (.ref b), v1, v2, v3]) ∧ Same H H' ∧ ∀ x ∈ l.take i, ¬ VaaclBase.allHold s x.guard = true)
      ⟨⟨none, none, none, rfl⟩, Same.refl H, fun x hx => by cases hx⟩ (fun i σ H' _ ⟨_, e, _⟩ => SqL.of (e _ _ ha)) ?_ ?_⟩
    · rintro i y σ H' H2 hi ⟨⟨v1, v2, v3, rfl⟩, e, hn⟩ ⟨T, x, z, rfl, hT, rfl, hx, hz⟩
      cases hx
      obtain ⟨t, ht, rfl⟩ := map_get hz
      obtain ⟨br, hbr, g, m, hX, hg, hm⟩ := et.get ht
      have e2 : Same H (upd H' T (.tup [.int (i : Nat), .ref t])) := e.new hT
      refine ⟨T, _, rfl, SqT.of upd_same, rfl, _, _, rfl, _, _, rfl, ⟨t, _, rfl, SqT.of (e2 _ _ hX), rfl, _, _, rfl, _, _, rfl, rfl, ?_⟩⟩
      have hlt : i < l.length := by
        rw [List.length_map, et.length] at hi
        exact hi
      have hba : VaaclBase.branchAt l i = br := by
        unfold VaaclBase.branchAt
        rw [hbr]
        rfl
      refine ⟨rfl, _, rfl, _, rfl, g, b, br.guard, s, rfl, TestsAt.same hg e2, hb.same e2, (ok.2.2 br (List.mem_of_getElem? hbr)).2.2, fun H3 e3 => ⟨_, rfl, ?_⟩⟩
      by_cases c : VaaclBase.allHold s br.guard = true
      · refine tru c ?_
        have := k H3 (e2.trans e3)
        rw [(chosen_some hlt).mpr ⟨by rw [hba]; exact c, hn⟩] at this
        exact ⟨_, rfl, this⟩
      · refine fls (by simpa using c) ⟨⟨_, _, _, rfl⟩, e2.trans e3, ?_⟩
        intro x hx
        rw [take_more hbr] at hx
        rcases List.mem_append.mp hx with q | q
        · exact hn x q
        · rw [List.mem_singleton.mp q]
          exact c
    · rintro σ H' ⟨⟨v1, v2, v3, rfl⟩, e, hn⟩
      have := k H' e
      rw [List.length_map, et.length, List.take_length] at hn
      rw [show VaaclBase.chosen l s = none by
        unfold VaaclBase.chosen
        rw [List.findIdx?_eq_none_iff]
        intro x hx
        simpa using hn x hx] at this
      exact ⟨_, rfl, this⟩
/-! ## branch_moved -/
abbrev sBranchMoved : Stmt := top 7
theorem scBranchMoved : FnScope ["branches", "at", "values"] ["branches", "at", "values"] (defScope sBranchMoved) := ⟨rfl, rfl, rfl, by decide +kernel, rfl, by decide +kernel, by decide +kernel⟩
def spBranchMoved : Sp := fun vs H Q _ => ∃ (a b : Addr) (l : LoopT) (i : Nat) (s : Values), vs = [.ref a, .int (i : Nat), .ref b] ∧ LoopAt H a l ∧ IsI H b s ∧ GoodL s.length l ∧ s.length ≤ 4 ∧ i < l.length ∧
  ∀ (H' : Hp) (p : Addr), Same H H' → H p = none → IsI H' p (VaaclBase.moved (Vaacle.moveOf l i) s) → Q (.ref p) H'
theorem ok_branch_moved {fh : Addr} {fdh : FuncData} (DMoved : Def P w K mg base CX0 1 "moved" ["move", "values"] spMoved fh fdh)
    {f : Addr} {fd : FuncData} (F : Fun K "branch_moved" "branch_moved" sBranchMoved f fd) : FnOk P w K mg base CX0 2 f fd ["branches", "at", "values"] spBranchMoved := by
  refine F.ok scBranchMoved (fun vs H Q E h => ?_) (fun cdv A outer s H vs Q E hr h => ⟨_, pss_one (ps_ret (pe_call DMoved.ok (hr.mono (by decide)) rfl DMoved.m DMoved.kp DMoved.b .nil pass0 (pa_cons (pe_ix ix_tup (pe_ix ix_list (pv 0) (pv 1) (fun _ _ => rfl)) pe_int (fun _ _ => rfl)) (pa_cons (pv 2) pa_nil)))), ?_⟩)
  · obtain ⟨a, b, l, i, s, rfl, _⟩ := h
    rfl
  · obtain ⟨a, b, l, i, s, rfl, ⟨ts, ha, et⟩, hb, ok, h4, hi, k⟩ := h
    obtain ⟨t, ht, g, m, hX, hg, hm⟩ := et.back (branchAt_get hi)
    have htr : (ts.map V.ref)[i]? = some (.ref t) := by
      rw [List.getElem?_map, ht]
      rfl
    exact ⟨_, rfl, _, rfl, a, _, _, _, rfl, rfl, SqL.of ha, atI_nat htr, t, _, _, _, rfl, rfl, SqT.of hX, atI_nat (j := 1) rfl, _, rfl, m, b, _, s, rfl, hm, hb, (ok.at_ hi).1, h4, k⟩
end
end Lp
namespace Lp
open PySem PySem.Spec PyProof.Rows L2
open VaaclBase (Values valueAt)
section
variable {P : Program} {w : World} {K : PySem.W.Frag} {mg : Str → Option Value} {base : Heap}
/-- steps are not great -/
def SmallI (d : Int) : Prop := d.natAbs < 2 ^ 63
def Tame (d : Values) : Prop := ∀ i, -4000000000000 ≤ valueAt d i ∧ valueAt d i ≤ 4000000000000
theorem Tame.one {d : Values} (h : Tame d) (i : Nat) : SmallI (valueAt d i) := by
  have := h i
  unfold SmallI
  omega
theorem Tame.two {d : Values} (h : Tame d) (i j : Nat) : SmallI (valueAt d i - valueAt d j) := by
  have := h i
  have := h j
  unfold SmallI
  omega
theorem Tame.lin {d : Values} (h : Tame d) (m : MoveT) : Tame (lin m d) := by
  intro i
  by_cases hi : i < (Lp.lin m d).length
  · rw [valueAt_lt hi]
    simp only [Lp.lin, List.getElem_map]
    unfold linG oval
    split
    · omega
    · exact h _
  · rw [valueAt_ge (by omega)]
    omega
theorem SmallI.div {a d : Int} (h : SmallI d) (h0 : 0 < d) : CDivW a d := wide_div h0 h (by decide) (by decide)
theorem SmallI.mul {a d : Int} (h : SmallI d) : CMul a d := .inr (by unfold SmallI at h; omega)
/-! ## flip -/
abbrev sFlip : Stmt := top 9
theorem scFlip : FnScope ["value", "step", "bound"] ["value", "step", "bound"] (defScope sFlip) := ⟨rfl, rfl, rfl, by decide +kernel, rfl, by decide +kernel, by decide +kernel⟩
def spFlip : Sp := fun vs H Q _ => ∃ v d b : Int, vs = [.int v, .int d, .int b] ∧ SmallI d ∧ Q (.int (Lp.flip v d b)) H
theorem ok_flip {f : Addr} {fd : FuncData} (F : Fun K "flip" "flip" sFlip f fd) : FnOk P w K mg base CX0 1 f fd ["value", "step", "bound"] spFlip := by
  refine F.ok scFlip (fun vs H Q E h => ?_) (fun cdv A outer s H vs Q E hr h => ⟨_, pss_cons (ps_if (pt_cmp (pc_eqI (pv 1) pe_int)) (pss_one (ps_ret pe_int)) pss_nil) (pss_cons (ps_if (pt_cmp (pc_le (pv 0) (pv 2))) (pss_cons (ps_if (pt_cmp (pc_lt (pv 1) pe_int)) (pss_one (ps_ret pe_int)) pss_nil) (pss_one (ps_ret (pe_op op_add (pe_op op_fdivW (pe_op op_sub (pv 2) (pv 0)) (pv 1)) pe_int)))) pss_nil) (pss_cons (ps_if (pt_cmp (pc_gt (pv 1) pe_int)) (pss_one (ps_ret pe_int)) pss_nil) (pss_one (ps_ret (pe_op op_fdivW (pe_op op_sub (pe_op op_sub (pe_op op_sub (pv 0) (pv 2)) (pv 1)) pe_int) (pe_un un_neg (pv 1))))))), ?_⟩)
  · obtain ⟨v, d, b, rfl, _⟩ := h
    rfl
  · obtain ⟨v, d, b, rfl, hs, k⟩ := h
    unfold Lp.flip at k
    refine ⟨_, rfl, _, _, rfl, rfl, _, rfl, ?_⟩
    by_cases h0 : d = 0
    · rw [if_pos h0] at k
      exact tru (decide_eq_true h0) k
    · rw [if_neg h0] at k
      refine fls (decide_eq_false h0) ⟨_, rfl, _, rfl, _, _, rfl, rfl, _, rfl, ?_⟩
      by_cases h1 : v ≤ b
      · rw [if_pos h1] at k
        refine tru (decide_eq_true h1) ⟨_, rfl, _, _, rfl, rfl, _, rfl, ?_⟩
        by_cases h2 : d < 0
        · rw [if_pos h2] at k
          exact tru (decide_eq_true h2) k
        · rw [if_neg h2] at k
          refine fls (decide_eq_false h2) ?_
          exact ⟨_, rfl, _, rfl, _, _, rfl, rfl, _, rfl, _, _, rfl, rfl, hs.div (by omega), _, _, rfl, rfl, k⟩
      · rw [if_neg h1] at k
        refine fls (decide_eq_false h1) ⟨_, rfl, _, _, rfl, rfl, _, rfl, ?_⟩
        by_cases h2 : d > 0
        · rw [if_pos h2] at k
          exact tru (decide_eq_true h2) k
        · rw [if_neg h2] at k
          refine fls (decide_eq_false h2) ?_
          exact ⟨_, rfl, _, rfl, _, _, rfl, rfl, _, rfl, _, _, rfl, rfl, _, _, rfl, rfl, _, rfl, _, rfl, _, _, rfl, rfl, SmallI.div (by unfold SmallI at hs ⊢; omega) (by omega), k⟩
/-! ## flip_of -/
abbrev sFlipOf : Stmt := top 10
theorem scFlipOf : FnScope ["test", "values", "step", "kind", "counter", "a", "b"] ["test", "values", "step"] (defScope sFlipOf) := ⟨rfl, rfl, rfl, by decide +kernel, rfl, by decide +kernel, by decide +kernel⟩
def spFlipOf : Sp := fun vs H Q _ => ∃ (a b c : Addr) (t : TestT) (s d : Values), vs = [.ref a, .ref b, .ref c] ∧ TestAt H a t ∧ IsI H b s ∧ IsI H c d ∧ VaaclBase.okTest s.length t = true ∧ d.length = s.length ∧ Tame d ∧
  Q (.int (Lp.flipOf s d t)) H
theorem SmallI.neg {d : Int} (h : SmallI d) : SmallI (-d) := by
  unfold SmallI at h ⊢
  omega
theorem ok_flip_of {fh : Addr} {fdh : FuncData} (DFlip : Def P w K mg base CX0 1 "flip" ["value", "step", "bound"] spFlip fh fdh)
    {f : Addr} {fd : FuncData} (F : Fun K "flip_of" "flip_of" sFlipOf f fd) : FnOk P w K mg base CX0 2 f fd ["test", "values", "step"] spFlipOf := by
  refine F.ok scFlipOf (fun vs H Q E h => ?_) (fun cdv A outer s H vs Q E hr h => ⟨_, pss_cons (ps_asg (pv 0) (pg_tup rfl (pgs_cons (pg_name (i := 3) scFlipOf.nd rfl (.inl rfl)) (pgs_cons (pg_name (i := 4) scFlipOf.nd rfl (.inl rfl)) (pgs_cons (pg_name (i := 5) scFlipOf.nd rfl (.inl rfl)) (pgs_cons (pg_name (i := 6) scFlipOf.nd rfl (.inl rfl)) pgs_nil)))))) (pss_cons (ps_if (pt_cmp (pc_eqI (pv 3) pe_int)) (pss_one (ps_ret (pe_call DFlip.ok (hr.mono (by decide)) rfl DFlip.m DFlip.kp DFlip.b .nil pass0 (pa_cons (pe_ix ix_list (pv 1) (pv 4) (fun _ _ => rfl)) (pa_cons (pe_ix ix_list (pv 2) (pv 4) (fun _ _ => rfl)) (pa_cons (pv 5) pa_nil)))))) pss_nil) (pss_cons (ps_if (pt_cmp (pc_eqI (pv 3) pe_int)) (pss_one (ps_ret (pe_call DFlip.ok (hr.mono (by decide)) rfl DFlip.m DFlip.kp DFlip.b .nil pass0 (pa_cons (pe_un un_neg (pe_ix ix_list (pv 1) (pv 4) (fun _ _ => rfl))) (pa_cons (pe_un un_neg (pe_ix ix_list (pv 2) (pv 4) (fun _ _ => rfl))) (pa_cons (pe_un un_neg (pv 5)) pa_nil)))))) pss_nil) (pss_cons (ps_if (pt_cmp (pc_eqI (pv 3) pe_int)) (pss_one (ps_ret (pe_call DFlip.ok (hr.mono (by decide)) rfl DFlip.m DFlip.kp DFlip.b .nil pass0 (pa_cons (pe_op op_sub (pe_ix ix_list (pv 1) (pv 4) (fun _ _ => rfl)) (pe_ix ix_list (pv 1) (pv 5) (fun _ _ => rfl))) (pa_cons (pe_op op_sub (pe_ix ix_list (pv 2) (pv 4) (fun _ _ => rfl)) (pe_ix ix_list (pv 2) (pv 5) (fun _ _ => rfl))) (pa_cons (pv 6) pa_nil)))))) pss_nil) (pss_one (ps_ret pe_int))))), ?_⟩)
  · obtain ⟨a, b, c, t, s, d, rfl, _⟩ := h
    rfl
  · obtain ⟨a, b, c, t, s, d, rfl, ha, hb, hc, ok, hd, sm, k⟩ := h
    cases t with
    | atMost x z =>
      unfold VaaclBase.okTest at ok
      rw [Bool.and_eq_true, decide_eq_true_eq] at ok
      refine ⟨_, rfl, a, _, rfl, SqT.of ha, rfl, _, _, rfl, _, _, rfl, _, _, rfl, _, _, rfl, rfl, _, rfl, _, _, rfl, rfl, _, rfl, tru rfl ?_⟩
      exact ⟨_, rfl, _, rfl, b, _, _, _, rfl, rfl, SqL.of hb, atI_nat (valueAt_int ok.1), _, rfl, _, rfl, c, _, _, _, rfl, rfl, SqL.of hc, atI_nat (valueAt_int (by rw [hd]; exact ok.1)), _, rfl, _, _, _, rfl, sm.one x, k⟩
    | atLeast x z =>
      unfold VaaclBase.okTest at ok
      rw [Bool.and_eq_true, decide_eq_true_eq] at ok
      refine ⟨_, rfl, a, _, rfl, SqT.of ha, rfl, _, _, rfl, _, _, rfl, _, _, rfl, _, _, rfl, rfl, _, rfl, _, _, rfl, rfl, _, rfl, fls rfl ?_⟩
      refine ⟨_, rfl, _, _, rfl, rfl, _, rfl, tru rfl ?_⟩
      exact ⟨_, rfl, _, rfl, b, _, _, _, rfl, rfl, SqL.of hb, atI_nat (valueAt_int ok.1), _, rfl, _, rfl, _, rfl, c, _, _, _, rfl, rfl, SqL.of hc, atI_nat (valueAt_int (by rw [hd]; exact ok.1)), _, rfl, _, rfl, _, rfl, _, _, _, rfl, (sm.one x).neg, k⟩
    | below x y z =>
      unfold VaaclBase.okTest at ok
      rw [Bool.and_eq_true, Bool.and_eq_true, decide_eq_true_eq, decide_eq_true_eq] at ok
      refine ⟨_, rfl, a, _, rfl, SqT.of ha, rfl, _, _, rfl, _, _, rfl, _, _, rfl, _, _, rfl, rfl, _, rfl, _, _, rfl, rfl, _, rfl, fls rfl ?_⟩
      refine ⟨_, rfl, _, _, rfl, rfl, _, rfl, fls rfl ?_⟩
      refine ⟨_, rfl, _, _, rfl, rfl, _, rfl, tru rfl ?_⟩
      exact ⟨_, rfl, _, rfl, b, _, _, _, rfl, rfl, SqL.of hb, atI_nat (valueAt_int ok.1), _, rfl, _, rfl, b, _, _, _, rfl, rfl, SqL.of hb, atI_nat (valueAt_int ok.2.1), _, _, rfl, rfl,
        _, rfl, _, rfl, c, _, _, _, rfl, rfl, SqL.of hc, atI_nat (valueAt_int (by rw [hd]; exact ok.1)), _, rfl, _, rfl, c, _, _, _, rfl, rfl, SqL.of hc, atI_nat (valueAt_int (by rw [hd]; exact ok.2.1)), _, _, rfl, rfl, _, rfl, _, _, _, rfl, sm.two x y, k⟩
    | rem x m r =>
      refine ⟨_, rfl, a, _, rfl, SqT.of ha, rfl, _, _, rfl, _, _, rfl, _, _, rfl, _, _, rfl, rfl, _, rfl, _, _, rfl, rfl, _, rfl, fls rfl ?_⟩
      refine ⟨_, rfl, _, _, rfl, rfl, _, rfl, fls rfl ?_⟩
      refine ⟨_, rfl, _, _, rfl, rfl, _, rfl, fls rfl ?_⟩
      exact k
/-! ## flips_of_choice -/
abbrev sFlipsOfChoice : Stmt := top 11
theorem scFlipsOfChoice : FnScope ["branches", "chosen_at", "values", "step", "found", "at", "test"] ["branches", "chosen_at", "values", "step"] (defScope sFlipsOfChoice) := ⟨rfl, rfl, rfl, by decide +kernel, rfl, by decide +kernel, by decide +kernel⟩
def spFlipsOfChoice : Sp := fun vs H Q _ => ∃ (a b c : Addr) (l : LoopT) (i : Nat) (s d : Values), vs = [.ref a, .int (i : Nat), .ref b, .ref c] ∧ LoopAt H a l ∧ IsI H b s ∧ IsI H c d ∧ GoodL s.length l ∧ i < l.length ∧ d.length = s.length ∧ Tame d ∧
  ∀ (H' : Hp) (p : Addr), Same H H' → H p = none → IsI H' p (Lp.flipsChoice l s d i) → Q (.ref p) H'
theorem choice_more (l : LoopT) (s d : Values) (i : Nat) : ((List.range (i + 1)).flatMap fun i => (VaaclBase.branchAt l i).guard.map (Lp.flipOf s d)) = ((List.range i).flatMap fun i => (VaaclBase.branchAt l i).guard.map (Lp.flipOf s d)) ++ (VaaclBase.branchAt l i).guard.map (Lp.flipOf s d) := by
  rw [List.range_succ, List.flatMap_append, List.flatMap_singleton]
theorem choice_len {n : Nat} {l : LoopT} (ok : GoodL n l) (s d : Values) : ∀ i, i ≤ l.length → (((List.range i).flatMap fun i => (VaaclBase.branchAt l i).guard.map (Lp.flipOf s d))).length ≤ 3 * i
  | 0, _ => by simp
  | i + 1, h => by
    have ih := choice_len ok s d i (by omega)
    have g := (ok.at_ (b := i) (by omega)).2.1
    rw [choice_more, List.length_append, List.length_map]
    omega
theorem ok_flips_of_choice (G : NamesOf mg) {fh : Addr} {fdh : FuncData} (DFlipOf : Def P w K mg base CX0 2 "flip_of" ["test", "values", "step"] spFlipOf fh fdh)
    {f : Addr} {fd : FuncData} (F : Fun K "flips_of_choice" "flips_of_choice" sFlipsOfChoice f fd) : FnOk P w K mg base CX0 3 f fd ["branches", "chosen_at", "values", "step"] spFlipsOfChoice := by
  refine F.ok scFlipsOfChoice (fun vs H Q E h => ?_) (fun cdv A outer s H vs Q E hr h => ⟨_, pss_cons (ps_set (i := 4) scFlipsOfChoice.nd rfl (.inl rfl) (pe_lst pa_nil)) (pss_cons (ps_for PassesOwn.never rfl (pi_range1 rfl G.range (pa_cons (pe_op op_add (pv 1) pe_int) pa_nil)) (pg_name (i := 5) scFlipsOfChoice.nd rfl (.inl rfl)) (pss_one (ps_for PassesOwn.never rfl (pi_list (pe_ix ix_tup (pe_ix ix_list (pv 0) (pv 5) (fun _ _ => rfl)) pe_int (fun _ _ => rfl))) (pg_name (i := 6) scFlipsOfChoice.nd rfl (.inl rfl)) (pss_one (ps_expr (pe_bm PySem.F.plainAttrs_list PySem.F.slot_list_append PySem.F.type_list_append mt_append (pv 4) (pa_cons (pe_call DFlipOf.ok (hr.mono (by decide)) rfl DFlipOf.m DFlipOf.kp DFlipOf.b .nil pass0 (pa_cons (pv 6) (pa_cons (pv 2) (pa_cons (pv 3) pa_nil)))) pa_nil))))))) (pss_one (ps_ret (pv 4)))), ?_⟩)
  · obtain ⟨a, b, c, l, i, s, d, rfl, _⟩ := h
    rfl
  · obtain ⟨a, b, c, l, n, s, d, rfl, ⟨ts, ha, et⟩, hb, hc, ok, hn, hd, tame, k⟩ := h
    refine ⟨by show 0 ≤ sizeLine; decide, fun p hp => ?_⟩
    have e0 : Same H (upd H p (.lst [])) := (Same.refl H).new hp
    refine ⟨_, rfl, _, _, rfl, rfl, _, rfl, by omega, by have := ok.2.1; omega, for_range (lo := 0) (n := ((n : Int) + 1).toNat) (fun i σ H' => (∃ v1 v2 : Option V, σ = [some (.ref a), some (.int (n : Nat)), some (.ref b), some (.ref c), some (.ref p), v1, v2]) ∧ Same H H' ∧ IsI H' p ((List.range i).flatMap fun i => (VaaclBase.branchAt l i).guard.map (Lp.flipOf s d)))
      ⟨⟨none, none, rfl⟩, e0, upd_same⟩ ?_ ?_⟩
    · rintro i σ H' hi ⟨⟨v1, v2, rfl⟩, e, hL⟩
      have hil : i < l.length := by omega
      obtain ⟨t, ht, g, m, hX, hg, hm⟩ := et.back (branchAt_get hil)
      obtain ⟨us, hga, eg⟩ := hg
      have htr : (ts.map V.ref)[i]? = some (.ref t) := by
        rw [List.getElem?_map, ht]
        rfl
      have good := ok.at_ hil
      have glen := choice_len ok s d i (by omega)
      refine ⟨_, rfl, _, rfl, a, _, _, _, rfl, rfl, SqL.of (e _ _ ha), by rw [Int.zero_add]; exact atI_nat htr, t, _, _, _, rfl, rfl, SqT.of (e _ _ hX), atI_nat (j := 0) rfl, g, rfl, ⟨_, SqL.of (e _ _ hga)⟩, ?_⟩
      refine for_list (K := K) (a := g) (xs := us.map V.ref) (fun j σ H2 => (∃ v1 v2 : Option V, σ = [some (.ref a), some (.int (n : Nat)), some (.ref b), some (.ref c), some (.ref p), v1, v2]) ∧ Same H H2 ∧ IsI H2 p (((List.range i).flatMap fun i => (VaaclBase.branchAt l i).guard.map (Lp.flipOf s d)) ++ ((VaaclBase.branchAt l i).guard.take j).map (Lp.flipOf s d)))
        ⟨⟨_, _, rfl⟩, e, by rw [List.take_zero, List.map_nil, List.append_nil]; exact hL⟩ (fun i σ H' _ ⟨_, e, _⟩ => SqL.of (e _ _ hga)) ?_ ?_
      · rintro j y σ H2 hj ⟨⟨v1, v2, rfl⟩, e2, hL2⟩
        obtain ⟨u, hu, rfl⟩ := map_get hj
        obtain ⟨x, hx, hX2⟩ := eg.get hu
        refine ⟨_, rfl, .inl ⟨rfl, _, SqL.of hL2⟩, _, rfl, _, rfl, _, rfl, u, b, c, x, s, d, rfl, hX2.same e2, hb.same e2, hc.same e2, good.2.2 x (List.mem_of_getElem? hx), hd, tame, ?_⟩
        refine ⟨p, _, _, rfl, rfl, hL2, ?_, ⟨_, _, rfl⟩, e2.put hp, ?_⟩
        · rw [List.length_map, List.length_append, List.length_map, List.length_take]
          exact sizeOk (by have := good.2.1; have := ok.2.1; omega)
        · unfold IsI
          rw [upd_same, take_more hx]
          simp only [List.map_append, List.append_assoc]
          rfl
      · rintro σ H2 ⟨⟨v1, v2, rfl⟩, e2, hL2⟩
        refine ⟨⟨_, _, rfl⟩, e2, ?_⟩
        rw [List.length_map, eg.length, List.take_length] at hL2
        rw [choice_more]
        exact hL2
    · rintro σ H' ⟨⟨v1, v2, rfl⟩, e, hL⟩
      refine ⟨_, rfl, k H' p e hp ?_⟩
      rw [show ((n : Int) + 1).toNat = n + 1 by omega] at hL
      exact hL
/-! ## flips_of_far -/
abbrev sFlipsOfFar : Stmt := top 12
theorem scFlipsOfFar : FnScope ["values", "step", "found", "j"] ["values", "step"] (defScope sFlipsOfFar) := ⟨rfl, rfl, rfl, by decide +kernel, rfl, by decide +kernel, by decide +kernel⟩
def spFlipsOfFar : Sp := fun vs H Q _ => ∃ (b c : Addr) (s d : Values), vs = [.ref b, .ref c] ∧ IsI H b s ∧ IsI H c d ∧ d.length = s.length ∧ s.length ≤ 4 ∧ Tame d ∧
  ∀ (H' : Hp) (p : Addr), Same H H' → H p = none → IsI H' p (Lp.flipsFar s d) → Q (.ref p) H'
theorem far_more (s d : Values) (i : Nat) : (List.range (i + 1)).flatMap (Lp.farOne s d) = (List.range i).flatMap (Lp.farOne s d) ++ Lp.farOne s d i := by
  rw [List.range_succ, List.flatMap_append, List.flatMap_singleton]
theorem far_len (s d : Values) : ∀ i, ((List.range i).flatMap (Lp.farOne s d)).length = 2 * i
  | 0 => by simp
  | i + 1 => by
    rw [far_more, List.length_append, far_len s d i]
    show 2 * i + 2 = 2 * (i + 1)
    omega
theorem ok_flips_of_far (G : NamesOf mg) {fh : Addr} {fdh : FuncData} (DFlip : Def P w K mg base CX0 1 "flip" ["value", "step", "bound"] spFlip fh fdh)
    {f : Addr} {fd : FuncData} (F : Fun K "flips_of_far" "flips_of_far" sFlipsOfFar f fd) : FnOk P w K mg base CX0 2 f fd ["values", "step"] spFlipsOfFar := by
  refine F.ok scFlipsOfFar (fun vs H Q E h => ?_) (fun cdv A outer s H vs Q E hr h => ⟨_, pss_cons (ps_set (i := 2) scFlipsOfFar.nd rfl (.inl rfl) (pe_lst pa_nil)) (pss_cons (ps_for PassesOwn.never rfl (pi_range1 rfl G.range (pa_cons (pe_callB call_len_seq (by rfl) G.len PySem.boot_len (pa_cons (pv 0) pa_nil)) pa_nil)) (pg_name (i := 3) scFlipsOfFar.nd rfl (.inl rfl)) (pss_cons (ps_expr (pe_bm PySem.F.plainAttrs_list PySem.F.slot_list_append PySem.F.type_list_append mt_append (pv 2) (pa_cons (pe_call DFlip.ok (hr.mono (by decide)) rfl DFlip.m DFlip.kp DFlip.b .nil pass0 (pa_cons (pe_ix ix_list (pv 0) (pv 3) (fun _ _ => rfl)) (pa_cons (pe_ix ix_list (pv 1) (pv 3) (fun _ _ => rfl)) (pa_cons (pe_gint rfl G.FAR) pa_nil)))) pa_nil))) (pss_one (ps_expr (pe_bm PySem.F.plainAttrs_list PySem.F.slot_list_append PySem.F.type_list_append mt_append (pv 2) (pa_cons (pe_call DFlip.ok (hr.mono (by decide)) rfl DFlip.m DFlip.kp DFlip.b .nil pass0 (pa_cons (pe_un un_neg (pe_ix ix_list (pv 0) (pv 3) (fun _ _ => rfl))) (pa_cons (pe_un un_neg (pe_ix ix_list (pv 1) (pv 3) (fun _ _ => rfl))) (pa_cons (pe_gint rfl G.FAR) pa_nil)))) pa_nil)))))) (pss_one (ps_ret (pv 2)))), ?_⟩)
  · obtain ⟨b, c, s, d, rfl, _⟩ := h
    rfl
  · obtain ⟨b, c, s, d, rfl, hb, hc, hd, h4, tame, k⟩ := h
    refine ⟨by show 0 ≤ sizeLine; decide, fun p hp => ?_⟩
    have e0 : Same H (upd H p (.lst [])) := (Same.refl H).new hp
    refine ⟨_, rfl, b, _, rfl, .inl (SqL.of (e0 _ _ hb)), _, rfl, by omega, by rw [List.length_map]; omega, ?_⟩
    rw [List.length_map, Int.toNat_natCast]
    refine for_range (lo := 0) (n := s.length) (fun i σ H' => (∃ v1 : Option V, σ = [some (.ref b), some (.ref c), some (.ref p), v1]) ∧ Same H H' ∧ IsI H' p ((List.range i).flatMap (Lp.farOne s d)))
      ⟨⟨none, rfl⟩, e0, upd_same⟩ ?_ ?_
    · rintro i σ H' hi ⟨⟨v1, rfl⟩, e, hL⟩
      have len := far_len s d i
      have hs : (s.map V.int)[i]? = some (.int (valueAt s i)) := valueAt_int hi
      have hdi : (d.map V.int)[i]? = some (.int (valueAt d i)) := valueAt_int (by omega)
      rw [Int.zero_add]
      refine ⟨_, rfl, .inl ⟨rfl, _, SqL.of hL⟩, _, rfl, _, rfl, b, _, _, _, rfl, rfl, SqL.of (e _ _ hb), atI_nat hs, _, rfl, _, rfl, c, _, _, _, rfl, rfl, SqL.of (e _ _ hc), atI_nat hdi, _, _, _, rfl, tame.one i, ?_⟩
      refine ⟨p, _, _, rfl, rfl, hL, by rw [List.length_map, len]; exact sizeOk (by omega), ?_⟩
      have e2 : Same H (upd H' p (.lst (((List.range i).flatMap (Lp.farOne s d)).map V.int ++ [.int (Lp.flip (valueAt s i) (valueAt d i) 1000000000000)]))) := e.put hp
      refine ⟨_, rfl, .inl ⟨rfl, _, SqL.of upd_same⟩, _, rfl, _, rfl, b, _, _, _, rfl, rfl, SqL.of (e2 _ _ hb), atI_nat hs, _, rfl, _, rfl, _, rfl, c, _, _, _, rfl, rfl, SqL.of (e2 _ _ hc), atI_nat hdi, _, rfl, _, _, _, rfl, (tame.one i).neg, ?_⟩
      refine ⟨p, _, _, rfl, rfl, upd_same, by rw [List.length_append, List.length_map, len]; exact sizeOk (by simp; omega), ⟨_, rfl⟩, e2.put hp, ?_⟩
      unfold IsI
      rw [upd_same, far_more, List.map_append, List.append_assoc]
      rfl
    · rintro σ H' ⟨⟨v1, rfl⟩, e, hL⟩
      exact ⟨_, rfl, k H' p e hp hL⟩
/-! ## step_moved -/
abbrev sStepMoved : Stmt := top 13
theorem scStepMoved : FnScope ["move", "step", "after", "source", "number"] ["move", "step"] (defScope sStepMoved) := ⟨rfl, rfl, rfl, by decide +kernel, rfl, by decide +kernel, by decide +kernel⟩
def spStepMoved : Sp := fun vs H Q _ => ∃ (a b : Addr) (m : MoveT) (d : Values), vs = [.ref a, .ref b] ∧ MoveAt H a m ∧ IsI H b d ∧ OkM d.length m ∧ d.length ≤ 4 ∧
  ∀ (H' : Hp) (p : Addr), Same H H' → H p = none → IsI H' p (Lp.lin m d) → Q (.ref p) H'
theorem ok_step_moved {f : Addr} {fd : FuncData} (F : Fun K "step_moved" "step_moved" sStepMoved f fd) : FnOk P w K mg base CX0 1 f fd ["move", "step"] spStepMoved := by
  refine F.ok scStepMoved (fun vs H Q E h => ?_) (fun cdv A outer s H vs Q E hr h => ⟨_, pss_cons (ps_set (i := 2) scStepMoved.nd rfl (.inl rfl) (pe_lst pa_nil)) (pss_cons (ps_for PassesOwn.never rfl (pi_list (pv 0)) (pg_tup rfl (pgs_cons (pg_name (i := 3) scStepMoved.nd rfl (.inl rfl)) (pgs_cons (pg_name (i := 4) scStepMoved.nd rfl (.inl rfl)) pgs_nil))) (pss_one (ps_if (pt_cmp (pc_lt (pv 3) pe_int)) (pss_one (ps_expr (pe_bm PySem.F.plainAttrs_list PySem.F.slot_list_append PySem.F.type_list_append mt_append (pv 2) (pa_cons pe_int pa_nil)))) (pss_one (ps_expr (pe_bm PySem.F.plainAttrs_list PySem.F.slot_list_append PySem.F.type_list_append mt_append (pv 2) (pa_cons (pe_ix ix_list (pv 1) (pv 3) (fun _ _ => rfl)) pa_nil))))))) (pss_one (ps_ret (pv 2)))), ?_⟩)
  · obtain ⟨a, b, m, s, rfl, _⟩ := h
    rfl
  · obtain ⟨a, b, m, s, rfl, ⟨ts, ha, et⟩, hb, okm, h4, k⟩ := h
    refine ⟨by show 0 ≤ sizeLine; decide, fun l hl => ?_⟩
    have e0 : Same H (upd H l (.lst [])) := (Same.refl H).new hl
    refine ⟨_, rfl, a, rfl, ⟨_, SqL.of (e0 _ _ ha)⟩, for_list (K := K) (a := a) (xs := ts.map V.ref) (fun i σ H' => ∃ v1 v2 : Option V, σ = [some (.ref a), some (.ref b), some (.ref l), v1, v2] ∧ Same H H' ∧ IsI H' l (Lp.lin (m.take i) s))
      ⟨none, none, rfl, e0, upd_same⟩ (fun i σ H' _ ⟨_, _, _, e, _⟩ => SqL.of (e _ _ ha)) ?_ ?_⟩
    · rintro i y σ H' hi ⟨v1, v2, rfl, e, hL⟩
      obtain ⟨t, ht, rfl⟩ := map_get hi
      obtain ⟨g, hg, hG⟩ := et.get ht
      refine ⟨t, _, rfl, SqT.of (e _ _ hG), rfl, _, _, rfl, _, _, rfl, rfl, _, rfl, _, _, rfl, rfl, _, rfl, ?_⟩
      have fin : ∀ z : Int, z = linG s g → IsI (upd H' l (.lst ((Lp.lin (m.take i) s).map V.int ++ [.int z]))) l (Lp.lin (m.take (i + 1)) s) := by
        intro z hz
        unfold IsI
        rw [upd_same, take_more hg, hz]
        unfold Lp.lin
        rw [List.map_append, List.map_append]
        rfl
      have hlen : (List.map V.int (Lp.lin (m.take i) s)).length < sizeLine := by
        rw [List.length_map, lin_length, List.length_take]
        exact sizeOk (by have := okm.1; omega)
      by_cases c : VaaclBase.orNone g.source < 0
      · refine tru (decide_eq_true c) ?_
        refine ⟨_, rfl, .inl ⟨rfl, _, SqL.of hL⟩, l, _, _, rfl, rfl, hL, hlen, _, _, rfl, e.put hl, fin _ ?_⟩
        unfold linG
        rw [orNone_neg c]
        rfl
      · refine fls (decide_eq_false c) ?_
        obtain ⟨j, hj⟩ : ∃ j, g.source = some j := by
          cases q : g.source with
          | none =>
            rw [q] at c
            exact absurd (show (-1 : Int) < 0 by omega) c
          | some j => exact ⟨j, rfl⟩
        have hjs := okm.2 g (List.mem_of_getElem? hg) j hj
        have hjo : VaaclBase.orNone g.source = ((j : Nat) : Int) := by
          rw [hj]
          rfl
        rw [hjo]
        refine ⟨_, rfl, .inl ⟨rfl, _, SqL.of hL⟩, _, rfl, _, rfl, b, _, _, _, rfl, rfl, SqL.of (e _ _ hb), atI_nat (valueAt_int hjs), l, _, _, rfl, rfl, hL, hlen, _, _, rfl, e.put hl, fin _ ?_⟩
        unfold linG
        rw [hj]
        rfl
    · rintro σ H' ⟨v1, v2, rfl, e, hL⟩
      refine ⟨_, rfl, k _ _ e hl ?_⟩
      rw [List.length_map, et.length, List.take_length] at hL
      exact hL
/-! ## flips -/
abbrev sFlips : Stmt := top 14
theorem scFlips : FnScope ["branches", "pattern", "values", "step", "found", "at", "k"] ["branches", "pattern", "values", "step"] (defScope sFlips) := ⟨rfl, rfl, rfl, by decide +kernel, rfl, by decide +kernel, by decide +kernel⟩
def spFlips : Sp := fun vs H Q _ => ∃ (a b c e : Addr) (l : LoopT) (p : List Nat) (s d : Values), vs = [.ref a, .ref b, .ref c, .ref e] ∧ LoopAt H a l ∧ IsI H b (p.map fun (i : Nat) => (i : Int)) ∧ IsI H c s ∧ IsI H e d ∧ GoodL s.length l ∧ (∀ i ∈ p, i < l.length) ∧ p.length ≤ 3 ∧
  d.length = s.length ∧ s.length ≤ 4 ∧ Tame d ∧
  ∀ (H' : Hp) (r : Addr) (ks : List Int), Same H H' → H r = none → ks.Pairwise (· < ·) → (∀ k, k ∈ ks ↔ (k ∈ Lp.flipsAll l p s d ∧ 0 < k)) → ks.length < 64 → IsI H' r ks → Q (.ref r) H'
theorem flips_step (l : LoopT) : ∀ (s d : Values) (p : List Nat) (b : Nat), Lp.flipsAll l (p ++ [b]) s d = Lp.flipsAll l p s d ++ (Lp.flipsChoice l (adv l p s) (advStep l p d) b ++ Lp.flipsFar (VaaclBase.moved (Vaacle.moveOf l b) (adv l p s)) (Lp.lin (Vaacle.moveOf l b) (advStep l p d)))
  | s, d, [], b => by
    show (_ ++ _) ++ [] = [] ++ (_ ++ _)
    rw [List.append_nil, List.nil_append]
    rfl
  | s, d, c :: p, b => by
    show (_ ++ _) ++ Lp.flipsAll l (p ++ [b]) _ _ = ((_ ++ _) ++ Lp.flipsAll l p _ _) ++ _
    rw [flips_step l _ _ p b]
    simp only [List.append_assoc]
    rfl
theorem adv_length {n : Nat} {l : LoopT} (ok : GoodL n l) : ∀ (p : List Nat) (s : Values), (∀ x ∈ p, x < l.length) → s.length = n → (adv l p s).length = n
  | [], _, _, h => h
  | b :: p, s, hp, h => adv_length ok p _ (fun x hx => hp x (List.mem_cons_of_mem _ hx)) (by rw [moved_length]; exact (ok.at_ (hp b List.mem_cons_self)).1.1)
theorem advStep_length {n : Nat} {l : LoopT} (ok : GoodL n l) : ∀ (p : List Nat) (s : Values), (∀ x ∈ p, x < l.length) → s.length = n → (advStep l p s).length = n
  | [], _, _, h => h
  | b :: p, s, hp, h => advStep_length ok p _ (fun x hx => hp x (List.mem_cons_of_mem _ hx)) (by rw [lin_length]; exact (ok.at_ (hp b List.mem_cons_self)).1.1)
theorem Tame.adv {l : LoopT} : ∀ (p : List Nat) {d : Values}, Tame d → Tame (advStep l p d)
  | [], _, h => h
  | b :: p, _, h => Tame.adv p (h.lin _)
theorem flips_len {n : Nat} {l : LoopT} (ok : GoodL n l) (h4 : n ≤ 4) : ∀ (p : List Nat) (s d : Values), (∀ x ∈ p, x < l.length) → s.length = n → (Lp.flipsAll l p s d).length ≤ 17 * p.length
  | [], _, _, _, _ => Nat.le_refl 0
  | b :: p, s, d, hp, h => by
    have hb := hp b List.mem_cons_self
    have hl : (VaaclBase.moved (Vaacle.moveOf l b) s).length = n := by rw [moved_length]; exact (ok.at_ hb).1.1
    have ih := flips_len ok h4 p (VaaclBase.moved (Vaacle.moveOf l b) s) (Lp.lin (Vaacle.moveOf l b) d) (fun x hx => hp x (List.mem_cons_of_mem _ hx)) hl
    have c1 := choice_len ok s d (b + 1) (by omega)
    have c2 := far_len (VaaclBase.moved (Vaacle.moveOf l b) s) (Lp.lin (Vaacle.moveOf l b) d) (VaaclBase.moved (Vaacle.moveOf l b) s).length
    have c3 := ok.2.1
    show ((Lp.flipsChoice l s d b ++ Lp.flipsFar _ _) ++ Lp.flipsAll l p _ _).length ≤ 17 * (p.length + 1)
    rw [List.length_append, List.length_append]
    unfold Lp.flipsChoice Lp.flipsFar
    omega
theorem ok_flips (G : NamesOf mg) {f1 f2 f3 f4 : Addr} {d1 d2 d3 d4 : FuncData} (DFlipsOfChoice : Def P w K mg base CX0 3 "flips_of_choice" ["branches", "chosen_at", "values", "step"] spFlipsOfChoice f1 d1)
    (DBranchMoved : Def P w K mg base CX0 2 "branch_moved" ["branches", "at", "values"] spBranchMoved f2 d2) (DStepMoved : Def P w K mg base CX0 1 "step_moved" ["move", "step"] spStepMoved f3 d3)
    (DFlipsOfFar : Def P w K mg base CX0 2 "flips_of_far" ["values", "step"] spFlipsOfFar f4 d4)
    {f : Addr} {fd : FuncData} (F : Fun K "flips" "flips" sFlips f fd) : FnOk P w K mg base CX0 4 f fd ["branches", "pattern", "values", "step"] spFlips := by
  refine F.ok scFlips (fun vs H Q E h => ?_) (fun cdv A outer s H vs Q E hr h => ⟨_, pss_cons (ps_set (i := 4) scFlips.nd rfl (.inl rfl) (pe_lst pa_nil)) (pss_cons (ps_for PassesOwn.never rfl (pi_list (pv 1)) (pg_name (i := 5) scFlips.nd rfl (.inl rfl)) (pss_cons (ps_expr (pe_bm PySem.F.plainAttrs_list PySem.F.slot_list_extend PySem.F.type_list_extend mt_extend (pv 4) (pa_cons (pe_call DFlipsOfChoice.ok (hr.mono (by decide)) rfl DFlipsOfChoice.m DFlipsOfChoice.kp DFlipsOfChoice.b .nil pass0 (pa_cons (pv 0) (pa_cons (pv 5) (pa_cons (pv 2) (pa_cons (pv 3) pa_nil))))) pa_nil))) (pss_cons (ps_set (i := 2) scFlips.nd rfl (.inl rfl) (pe_call DBranchMoved.ok (hr.mono (by decide)) rfl DBranchMoved.m DBranchMoved.kp DBranchMoved.b .nil pass0 (pa_cons (pv 0) (pa_cons (pv 5) (pa_cons (pv 2) pa_nil))))) (pss_cons (ps_set (i := 3) scFlips.nd rfl (.inl rfl) (pe_call DStepMoved.ok (hr.mono (by decide)) rfl DStepMoved.m DStepMoved.kp DStepMoved.b .nil pass0 (pa_cons (pe_ix ix_tup (pe_ix ix_list (pv 0) (pv 5) (fun _ _ => rfl)) pe_int (fun _ _ => rfl)) (pa_cons (pv 3) pa_nil)))) (pss_one (ps_expr (pe_bm PySem.F.plainAttrs_list PySem.F.slot_list_extend PySem.F.type_list_extend mt_extend (pv 4) (pa_cons (pe_call DFlipsOfFar.ok (hr.mono (by decide)) rfl DFlipsOfFar.m DFlipsOfFar.kp DFlipsOfFar.b .nil pass0 (pa_cons (pv 2) (pa_cons (pv 3) pa_nil))) pa_nil)))))))) (pss_one (ps_ret (pe_lc (own := [("k", 6)]) (g := gName 6) rfl scFlips.nd (pi_list (pe_callB (cr_sortedSet rfl) (by rfl) G.sorted (by decide +kernel) (pa_cons (pe_callTy (cr_setInts rfl) (by rfl) G.set (by decide +kernel) (pa_cons (pv 4) pa_nil)) pa_nil))) (blkOk_by (own := [("k", 6)]) (N := ["branches", "pattern", "values", "step", "found", "at", "k"]) (sc := defScope sFlips) (by decide +kernel)) (fun _ _ _ _ _ => pg_name (i := 6) scFlips.nd rfl (Or.inl rfl)) (fun _ _ _ _ _ => pts_one (pt_cmp (pc_gt (pv 6) pe_int))) (fun _ _ _ _ _ => (pv 6)))))), ?_⟩)
  · obtain ⟨a, b, c, e, l, p, s, d, rfl, _⟩ := h
    rfl
  · obtain ⟨a, b, c, e, l, p, s, d, rfl, ha, hb, hc, hd, ok, hp, hp3, hds, h4, tame, k⟩ := h
    refine ⟨by show 0 ≤ sizeLine; decide, fun r hr0 => ?_⟩
    have e0 : Same H (upd H r (.lst [])) := (Same.refl H).new hr0
    have cr : c ≠ r := ne_of_none hc hr0
    have er : e ≠ r := ne_of_none hd hr0
    refine ⟨_, rfl, b, rfl, ⟨_, SqL.of (e0 _ _ hb)⟩, for_list (K := K) (a := b) (xs := (p.map fun (i : Nat) => (i : Int)).map V.int) (fun i σ H' => ∃ (c' e' : Addr) (v : Option V), σ = [some (.ref a), some (.ref b), some (.ref c'), some (.ref e'), some (.ref r), v, none] ∧ Same H H' ∧
        c' ≠ r ∧ e' ≠ r ∧ IsI H' c' (adv l (p.take i) s) ∧ IsI H' e' (advStep l (p.take i) d) ∧ IsI H' r (Lp.flipsAll l (p.take i) s d))
      ⟨c, e, none, rfl, e0, cr, er, e0 _ _ hc, e0 _ _ hd, upd_same⟩ (fun i σ H' _ ⟨_, _, _, _, e, _⟩ => SqL.of (e _ _ hb)) ?_ ?_⟩
    · rintro i y σ H' hi ⟨c', e', v, rfl, e1, cr', er', hc', he', hL⟩
      obtain ⟨z, hz, rfl⟩ := map_get hi
      obtain ⟨x, hx, rfl⟩ := map_get hz
      have hxl := hp x (List.mem_of_getElem? hx)
      have htk : ∀ y ∈ p.take i, y < l.length := fun y hy => hp y (List.mem_of_mem_take hy)
      have sl := adv_length ok (p.take i) s htk rfl
      have dl := advStep_length ok (p.take i) d htk hds
      have ftl := flips_len ok h4 (p.take i) s d htk rfl
      have htl : (p.take i).length ≤ 3 := by rw [List.length_take]; omega
      have hadv : adv l (p.take (i + 1)) s = VaaclBase.moved (Vaacle.moveOf l x) (adv l (p.take i) s) := by
        rw [take_more hx]
        unfold adv
        rw [List.foldl_append]
        rfl
      have hst : advStep l (p.take (i + 1)) d = Lp.lin (Vaacle.moveOf l x) (advStep l (p.take i) d) := by
        rw [take_more hx]
        unfold advStep
        rw [List.foldl_append]
        rfl
      refine ⟨_, rfl, .inl ⟨rfl, _, SqL.of hL⟩, _, rfl, _, rfl, _, rfl, _, rfl, a, c', e', l, x, _, _, rfl, ha.same e1, hc', he', by rw [sl]; exact ok, hxl, by rw [sl, dl], tame.adv _, fun H2 q1 e2 _ hq1 => ?_⟩
      have c1 := choice_len ok (adv l (p.take i) s) (advStep l (p.take i) d) (x + 1) (by omega)
      have e3 : Same H (upd H2 r (.lst ((Lp.flipsAll l (p.take i) s d).map V.int ++ (Lp.flipsChoice l (adv l (p.take i) s) (advStep l (p.take i) d) x).map V.int))) := (e1.trans e2).put hr0
      refine ⟨r, q1, _, _, rfl, rfl, e2 _ _ hL, hq1, ?_, ?_⟩
      · rw [List.length_map, List.length_map]
        unfold Lp.flipsChoice
        exact sizeOk' (by have := ok.2.1; omega)
      have hc3 : IsI (upd H2 r (.lst ((Lp.flipsAll l (p.take i) s d).map V.int ++ (Lp.flipsChoice l (adv l (p.take i) s) (advStep l (p.take i) d) x).map V.int))) c' (adv l (p.take i) s) := by
        unfold IsI
        rw [upd_ne cr']
        exact e2 _ _ hc'
      have he3 : IsI (upd H2 r (.lst ((Lp.flipsAll l (p.take i) s d).map V.int ++ (Lp.flipsChoice l (adv l (p.take i) s) (advStep l (p.take i) d) x).map V.int))) e' (advStep l (p.take i) d) := by
        unfold IsI
        rw [upd_ne er']
        exact e2 _ _ he'
      have hr3 : (upd H2 r (.lst ((Lp.flipsAll l (p.take i) s d).map V.int ++ (Lp.flipsChoice l (adv l (p.take i) s) (advStep l (p.take i) d) x).map V.int))) r = some (.lst ((Lp.flipsAll l (p.take i) s d ++ Lp.flipsChoice l (adv l (p.take i) s) (advStep l (p.take i) d) x).map V.int)) := by
        rw [upd_same, List.map_append]
      generalize (upd H2 r (.lst ((Lp.flipsAll l (p.take i) s d).map V.int ++ (Lp.flipsChoice l (adv l (p.take i) s) (advStep l (p.take i) d) x).map V.int))) = H3 at e3 hc3 he3 hr3 ⊢
      refine ⟨_, rfl, _, rfl, _, rfl, a, c', l, x, _, rfl, ha.same e3, hc3, by rw [sl]; exact ok, by omega, hxl, fun H4 c4 e4 nc4 hc4 => ?_⟩
      have cr4 : c4 ≠ r := (ne_of_none hr3 nc4).symm
      obtain ⟨ts, hta, et⟩ := ha.same (e3.trans e4)
      obtain ⟨t, ht, g, m, hX, hg, hm⟩ := et.back (branchAt_get hxl)
      have htr : (ts.map V.ref)[x]? = some (.ref t) := by
        rw [List.getElem?_map, ht]
        rfl
      refine ⟨_, rfl, _, rfl, a, _, _, _, rfl, rfl, SqL.of hta, atI_nat htr, t, _, _, _, rfl, rfl, SqT.of hX, atI_nat (j := 1) rfl, _, rfl, m, e', _, _, rfl, hm, e4 _ _ he3, by rw [dl]; exact (ok.at_ hxl).1, by omega, fun H5 e5a e5 ne5 he5' => ?_⟩
      have he5 : IsI H5 e5a (Lp.lin (Vaacle.moveOf l x) (advStep l (p.take i) d)) := he5'
      have er5 : e5a ≠ r := (ne_of_none (e4 _ _ hr3) ne5).symm
      have ml : (VaaclBase.moved (Vaacle.moveOf l x) (adv l (p.take i) s)).length = s.length := by rw [moved_length]; exact (ok.at_ hxl).1.1
      have ll : (Lp.lin (Vaacle.moveOf l x) (advStep l (p.take i) d)).length = s.length := by rw [lin_length]; exact (ok.at_ hxl).1.1
      refine ⟨_, rfl, .inl ⟨rfl, _, SqL.of (e5 _ _ (e4 _ _ hr3))⟩, _, rfl, _, rfl, c4, e5a, _, Lp.lin (Vaacle.moveOf l x) (advStep l (p.take i) d), rfl, e5 _ _ hc4, he5, by rw [ml, ll], by omega, (tame.adv _).lin _, fun H6 q6 e6 _ hq6 => ?_⟩
      have c2 := far_len (VaaclBase.moved (Vaacle.moveOf l x) (adv l (p.take i) s)) (Lp.lin (Vaacle.moveOf l x) (advStep l (p.take i) d)) (VaaclBase.moved (Vaacle.moveOf l x) (adv l (p.take i) s)).length
      refine ⟨r, q6, _, _, rfl, rfl, e6 _ _ (e5 _ _ (e4 _ _ hr3)), hq6, ?_, ?_⟩
      · rw [List.length_map, List.length_map, List.length_append]
        unfold Lp.flipsChoice Lp.flipsFar
        exact sizeOk' (by have := ok.2.1; omega)
      refine ⟨c4, e5a, _, rfl, (((e3.trans e4).trans e5).trans e6).put hr0, cr4, er5, ?_, ?_, ?_⟩
      · unfold IsI
        rw [upd_ne cr4, hadv]
        exact e6 _ _ (e5 _ _ hc4)
      · unfold IsI
        rw [upd_ne er5, hst]
        exact e6 _ _ he5
      · unfold IsI
        rw [upd_same, take_more hx, flips_step l s d (p.take i) x]
        simp only [List.map_append, List.append_assoc]
    · rintro σ H' ⟨c', e', v, rfl, e1, cr', er', hc', he', hL⟩
      rw [List.length_map, List.length_map, List.take_length] at hL
      have fl := flips_len ok h4 p s d hp rfl
      refine ⟨_, rfl, r, _, rfl, SqL.of hL, by omega, fun p2 n hn hp2 => ?_⟩
      refine ⟨p2, _, n, rfl, upd_same, by omega, fun ks p3 srt mem hlen hp3' => ?_⟩
      have e3 : Same H (upd (upd H' p2 (SetO w p2 (fun j => decide (j ∈ Lp.flipsAll l p s d)) n)) p3 (.lst (ks.map V.int))) := (e1.new hp2).new hp3'
      refine ⟨p3, rfl, ⟨_, SqL.of upd_same⟩, fun D hD' => ?_⟩
      have hD : (upd (upd H' p2 (SetO w p2 (fun j => decide (j ∈ Lp.flipsAll l p s d)) n)) p3 (.lst (ks.map V.int))) D = none := hD'
      have k3 : IsI (upd (upd H' p2 (SetO w p2 (fun j => decide (j ∈ Lp.flipsAll l p s d)) n)) p3 (.lst (ks.map V.int))) p3 ks := upd_same
      have hDH : H D = none := e3.free hD
      have pD : p3 ≠ D := ne_of_none k3 hD
      have start : Same H (upd (upd (upd H' p2 (SetO w p2 (fun j => decide (j ∈ Lp.flipsAll l p s d)) n)) p3 (.lst (ks.map V.int))) D (.lst [])) := e3.new hD
      refine lc_list (K := K) (a := p3) (xs := ks.map V.int) (fun i H4 => Same H H4 ∧ IsI H4 p3 ks ∧ IsI H4 D ((ks.take i).filter fun k => decide (k > 0)))
        ⟨start, (upd_ne pD).trans k3, upd_same⟩ (fun i H4 _ ⟨_, k4, _⟩ => SqL.of k4) ?_ ?_
      · rintro i y H4 hi ⟨e4, k4, h4⟩
        obtain ⟨z, hz, rfl⟩ := map_get hi
        refine ⟨rfl, _, rfl, _, _, rfl, rfl, _, rfl, ?_⟩
        by_cases hz0 : z > 0
        · refine tru (decide_eq_true hz0) ⟨_, rfl, _, h4, ?_, ?_⟩
          · have h1 := List.length_filter_le (fun k : Int => decide (k > 0)) (ks.take i)
            rw [List.length_take] at h1
            rw [List.length_map]
            exact sizeOk (by omega)
          · refine ⟨e4.put hDH, (upd_ne pD).trans k4, ?_⟩
            unfold IsI
            rw [upd_same, take_more hz, List.filter_append, List.map_append]
            rw [show [z].filter (fun k => decide (k > 0)) = [z] by simp [hz0]]
            rfl
        · refine fls (decide_eq_false hz0) ⟨e4, k4, ?_⟩
          rw [take_more hz, List.filter_append, show [z].filter (fun k => decide (k > 0)) = [] by simp [hz0], List.append_nil]
          exact h4
      · rintro H4 ⟨e4, _, h4⟩
        rw [List.length_map, List.take_length] at h4
        refine k H4 D _ e4 hDH (List.Pairwise.filter _ srt) (fun k => ?_) ?_ h4
        · rw [List.mem_filter, mem k, decide_eq_true_eq, decide_eq_true_eq]
        · have h1 := List.length_filter_le (fun k : Int => decide (k > 0)) ks
          omega
end
end Lp
namespace Lp
open PySem PySem.Spec PyProof.Rows L2
open VaaclBase (Values valueAt)
/-! ## Lists of whole numbers compared -/
def dataI (ns : List Int) : List PyData := ns.map PyData.int
theorem dp_ints {K : PySem.W.Frag} {H : Hp} : ∀ ns : List Int, DpAll K H (ns.map V.int) (dataI ns)
  | [] => .nil
  | n :: r => .cons (.int n) (dp_ints r)
theorem lay_ints : ∀ ns : List Int, PyData.canLayAll0 (dataI ns) = true
  | [] => rfl
  | n :: r => by
    show (PyData.canLay0 (.int n) && PyData.canLayAll0 (dataI r)) = true
    rw [lay_ints r]
    rfl
theorem depth_ints : ∀ ns : List Int, PyData.depthAll (dataI ns) = 0
  | [] => rfl
  | n :: r => by
    show max 0 (PyData.depthAll (dataI r)) = 0
    rw [depth_ints r]
    rfl
theorem shaped_ints (ns : List Int) : SeqAt.shaped (.list (dataI ns)) = true := by
  show (PyData.canLayAll0 (dataI ns) && decide (PyData.depthAll (dataI ns) + 1 ≤ 64)) = true
  rw [lay_ints, depth_ints]
  rfl
theorem eqv_ints : ∀ a b : List Int, PyData.eqvAll (dataI a) (dataI b) = (a == b)
  | [], [] => rfl
  | [], _ :: _ => rfl
  | _ :: _, [] => rfl
  | x :: a, y :: b => by
    show ((x == y) && PyData.eqvAll (dataI a) (dataI b)) = ((x :: a) == (y :: b))
    rw [eqv_ints a b]
    rfl
theorem IsI.dp {K : PySem.W.Frag} {H : Hp} {a : Addr} {ns : List Int} (h : IsI H a ns) : Dp K H (.ref a) (.list (dataI ns)) := .lst (SqL.of h) (dp_ints ns)
/-- natural numbers -/
def nats (p : List Nat) : List Int := p.map fun (i : Nat) => (i : Int)
theorem nats_inj : ∀ {p q : List Nat}, nats p = nats q → p = q
  | [], [], _ => rfl
  | [], _ :: _, h => by cases h
  | _ :: _, [], h => by cases h
  | x :: p, y :: q, h => by
    have h' : (x : Int) :: nats p = (y : Int) :: nats q := h
    rw [List.cons.injEq] at h'
    rw [nats_inj h'.2, Int.ofNat.inj h'.1]
theorem nats_beq (p q : List Nat) : (nats p == nats q) = (p == q) := by
  rw [Bool.eq_iff_iff, beq_iff_eq, beq_iff_eq]
  exact ⟨nats_inj, fun h => by rw [h]⟩
theorem nats_length (p : List Nat) : (nats p).length = p.length := List.length_map ..
theorem nats_take (p : List Nat) (k : Nat) : nats (p.take k) = (nats p).take k := List.map_take
theorem nats_append (p q : List Nat) : nats (p ++ q) = nats p ++ nats q := List.map_append
theorem cut_take {xs : List V} {k : Nat} : cutV xs none (some (k : Int)) = xs.take k := by
  unfold cutV
  rw [HT.sIx_none, HT.sIx_nat, List.drop_zero, Nat.sub_zero]
  rcases Nat.le_total k xs.length with h | h
  · rw [Nat.min_eq_left h]
  · rw [Nat.min_eq_right h, List.take_of_length_le (Nat.le_refl _), List.take_of_length_le h]
theorem cut_mid {xs : List V} {j k : Nat} (hj : j ≤ k) (hk : k ≤ xs.length) : cutV xs (some (j : Int)) (some (k : Int)) = (xs.drop j).take (k - j) := by
  unfold cutV
  rw [HT.sIx_nat, HT.sIx_nat, Nat.min_eq_left hk, Nat.min_eq_left (Nat.le_trans hj hk)]
section
variable {P : Program} {w : World} {K : PySem.W.Frag} {mg : Str → Option Value} {base : Heap}
/-! ## next_branches -/
abbrev sNextBranches : Stmt := top 17
theorem scNextBranches : FnScope ["branches", "values", "row", "turn", "at"] ["branches", "values"] (defScope sNextBranches) := ⟨rfl, rfl, rfl, by decide +kernel, rfl, by decide +kernel, by decide +kernel⟩
theorem branchesFrom_length (l : LoopT) : ∀ (n : Nat) (s : Values), (Vaacle.branchesFrom l n s).length ≤ n
  | 0, _ => Nat.le_refl 0
  | n + 1, s => by
    show (match VaaclBase.chosen l s with | none => [] | some b => b :: Vaacle.branchesFrom l n (VaaclBase.moved (Vaacle.moveOf l b) s)).length ≤ n + 1
    cases VaaclBase.chosen l s with
    | none => exact Nat.zero_le _
    | some b =>
      show (Vaacle.branchesFrom l n _).length + 1 ≤ n + 1
      have := branchesFrom_length l n (VaaclBase.moved (Vaacle.moveOf l b) s)
      omega
theorem branchesFrom_none {l : LoopT} {n : Nat} {s : Values} (h : VaaclBase.chosen l s = none) : Vaacle.branchesFrom l n s = [] := by
  cases n with
  | zero => rfl
  | succ n =>
    show (match VaaclBase.chosen l s with | none => [] | some b => b :: Vaacle.branchesFrom l n (VaaclBase.moved (Vaacle.moveOf l b) s)) = []
    rw [h]
theorem branchesFrom_some {l : LoopT} {n : Nat} {s : Values} {b : Nat} (h : VaaclBase.chosen l s = some b) : Vaacle.branchesFrom l (n + 1) s = b :: Vaacle.branchesFrom l n (VaaclBase.moved (Vaacle.moveOf l b) s) := by
  show (match VaaclBase.chosen l s with | none => [] | some b => b :: Vaacle.branchesFrom l n (VaaclBase.moved (Vaacle.moveOf l b) s)) = _
  rw [h]
def spNextBranches : Sp := fun vs H Q _ => ∃ (a b : Addr) (l : LoopT) (s : Values), vs = [.ref a, .ref b] ∧ LoopAt H a l ∧ IsI H b s ∧ GoodL s.length l ∧ s.length ≤ 4 ∧
  ∀ (H' : Hp) (p : Addr), Same H H' → H p = none → IsI H' p (nats (Vaacle.branchesFrom l 6 s)) → Q (.ref p) H'
theorem ok_next_branches (G : NamesOf mg) {f1 f2 : Addr} {d1 d2 : FuncData} (DChosen : Def P w K mg base CX0 3 "chosen" ["branches", "values"] spChosen f1 d1)
    (DBranchMoved : Def P w K mg base CX0 2 "branch_moved" ["branches", "at", "values"] spBranchMoved f2 d2)
    {f : Addr} {fd : FuncData} (F : Fun K "next_branches" "next_branches" sNextBranches f fd) : FnOk P w K mg base CX0 4 f fd ["branches", "values"] spNextBranches := by
  refine F.ok scNextBranches (fun vs H Q E h => ?_) (fun cdv A outer s H vs Q E hr h => ⟨_, pss_cons (ps_set (i := 2) scNextBranches.nd rfl (.inl rfl) (pe_lst pa_nil)) (pss_cons (ps_for PassesOwn.never rfl (pi_range1 rfl G.range (pa_cons (pe_gint rfl G.AHEAD) pa_nil)) (pg_name (i := 3) scNextBranches.nd rfl (.inl rfl)) (pss_cons (ps_set (i := 4) scNextBranches.nd rfl (.inl rfl) (pe_call DChosen.ok (hr.mono (by decide)) rfl DChosen.m DChosen.kp DChosen.b .nil pass0 (pa_cons (pv 0) (pa_cons (pv 1) pa_nil)))) (pss_cons (ps_if (pt_cmp (pc_lt (pv 4) pe_int)) (pss_one (ps_ret (pv 2))) pss_nil) (pss_cons (ps_expr (pe_bm PySem.F.plainAttrs_list PySem.F.slot_list_append PySem.F.type_list_append mt_append (pv 2) (pa_cons (pv 4) pa_nil))) (pss_one (ps_set (i := 1) scNextBranches.nd rfl (.inl rfl) (pe_call DBranchMoved.ok (hr.mono (by decide)) rfl DBranchMoved.m DBranchMoved.kp DBranchMoved.b .nil pass0 (pa_cons (pv 0) (pa_cons (pv 4) (pa_cons (pv 1) pa_nil)))))))))) (pss_one (ps_ret (pv 2)))), ?_⟩)
  · obtain ⟨a, b, l, s, rfl, _⟩ := h
    rfl
  · obtain ⟨a, b, l, s, rfl, ha, hb, ok, h4, k⟩ := h
    refine ⟨by show 0 ≤ sizeLine; decide, fun r hr0 => ?_⟩
    have e0 : Same H (upd H r (.lst [])) := (Same.refl H).new hr0
    refine ⟨_, rfl, by decide, by decide, for_range (lo := 0) (n := 6) (fun i σ H' => ∃ (c : Addr) (v1 v2 : Option V) (t : Values) (done : List Nat), σ = [some (.ref a), some (.ref c), some (.ref r), v1, v2] ∧ Same H H' ∧ c ≠ r ∧ IsI H' c t ∧ t.length = s.length ∧
        IsI H' r (nats done) ∧ done.length = i ∧ Vaacle.branchesFrom l 6 s = done ++ Vaacle.branchesFrom l (6 - i) t)
      ⟨b, none, none, s, [], rfl, e0, ne_of_none hb hr0, e0 _ _ hb, rfl, upd_same, rfl, rfl⟩ ?_ ?_⟩
    · rintro i σ H' hi ⟨c, v1, v2, t, done, rfl, e, cr, hc, tl, hL, dl, eq⟩
      refine ⟨_, rfl, _, rfl, a, c, l, t, rfl, ha.same e, hc, by rw [tl]; exact ok, fun H2 e2 => ?_⟩
      refine ⟨_, rfl, _, _, rfl, rfl, _, rfl, ?_⟩
      cases hch : VaaclBase.chosen l t with
      | none =>
        refine tru rfl ⟨_, rfl, k H2 r (e.trans e2) hr0 ?_⟩
        rw [eq, branchesFrom_none hch, List.append_nil]
        exact e2 _ _ hL
      | some x =>
        have hxl := chosen_lt hch
        refine fls (decide_eq_false (show ¬ ((x : Nat) : Int) < 0 by omega)) ?_
        have e3 : Same H (upd H2 r (.lst ((nats done).map V.int ++ [.int (x : Nat)]))) := (e.trans e2).put hr0
        have hc3 : IsI (upd H2 r (.lst ((nats done).map V.int ++ [.int (x : Nat)]))) c t := (upd_ne cr).trans (e2 _ _ hc)
        have hr3 : IsI (upd H2 r (.lst ((nats done).map V.int ++ [.int (x : Nat)]))) r (nats (done ++ [x])) := by
          unfold IsI
          rw [upd_same, nats_append, List.map_append]
          rfl
        refine ⟨_, rfl, .inl ⟨rfl, _, SqL.of (e2 _ _ hL)⟩, _, rfl, r, _, _, rfl, rfl, e2 _ _ hL, by rw [List.length_map, nats_length]; exact sizeOk (by omega), ?_⟩
        refine ⟨_, rfl, _, rfl, _, rfl, a, c, l, x, t, rfl, ha.same e3, hc3, by rw [tl]; exact ok, by omega, hxl, fun H4 c4 e4 nc4 hc4 => ?_⟩
        refine ⟨c4, _, _, _, done ++ [x], rfl, e3.trans e4, (ne_of_none hr3 nc4).symm, hc4, ?_, e4 _ _ hr3, by rw [List.length_append, dl]; rfl, ?_⟩
        · rw [moved_length, (OkL.move (GoodL.ok ok) hxl).1]
        · rw [eq, List.append_assoc]
          congr 1
          rw [show 6 - i = (6 - (i + 1)) + 1 by omega, branchesFrom_some hch]
          rfl
    · rintro σ H' ⟨c, v1, v2, t, done, rfl, e, cr, hc, tl, hL, dl, eq⟩
      refine ⟨_, rfl, k H' r e hr0 ?_⟩
      rw [eq]
      show IsI H' r (nats (done ++ []))
      rw [List.append_nil]
      exact hL
/-! ## begins_twice -/
abbrev sBeginsTwice : Stmt := top 18
theorem scBeginsTwice : FnScope ["row", "k"] ["row", "k"] (defScope sBeginsTwice) := ⟨rfl, rfl, rfl, by decide +kernel, rfl, by decide +kernel, by decide +kernel⟩
def spBeginsTwice : Sp := fun vs H Q _ => ∃ (a : Addr) (p : List Nat) (k : Nat), vs = [.ref a, .int (k : Nat)] ∧ IsI H a (nats p) ∧ p.length ≤ 6 ∧ ∀ H' : Hp, Same H H' → Q (.bl (decide (2 * k ≤ p.length) && p.take k == (p.drop k).take k)) H'
theorem ok_begins_twice (G : NamesOf mg) {f : Addr} {fd : FuncData} (F : Fun K "begins_twice" "begins_twice" sBeginsTwice f fd) : FnOk P w K mg base CX0 1 f fd ["row", "k"] spBeginsTwice := by
  refine F.ok scBeginsTwice (fun vs H Q E h => ?_) (fun cdv A outer s H vs Q E hr h => ⟨_, pss_one (ps_ret (pe_and (pe_cmp (pc_ge (pe_callB call_len_seq (by rfl) G.len PySem.boot_len (pa_cons (pv 0) pa_nil)) (pe_op op_mul pe_int (pv 1)))) (pe_one (pe_cmpR (op_eqD hr.units) (pe_slice sl_list (pv 0) po_none (po_some (pv 1))) (pe_slice sl_list (pv 0) (po_some (pv 1)) (po_some (pe_op op_mul pe_int (pv 1)))) (nomark _))))), ?_⟩)
  · obtain ⟨a, p, k, rfl, _⟩ := h
    rfl
  · obtain ⟨a, p, n, rfl, ha, h6, k⟩ := h
    refine ⟨_, rfl, a, _, rfl, .inl (SqL.of ha), _, rfl, _, _, rfl, rfl, .inl ⟨by decide, by decide⟩, _, _, rfl, rfl, _, rfl, ?_⟩
    have hlen : (List.map V.int (nats p)).length = p.length := by rw [List.length_map, nats_length]
    rw [hlen]
    by_cases c : 2 * n ≤ p.length
    · rw [decide_eq_true c] at k
      refine tru (decide_eq_true (by omega)) ?_
      refine ⟨_, rfl, _, rfl, _, rfl, a, _, rfl, SqL.of ha, fun p1 hp1 => ?_⟩
      have e1 : Same H (upd H p1 (.lst (cutV ((nats p).map V.int) none (some (n : Int))))) := (Same.refl H).new hp1
      have h1 : IsI (upd H p1 (.lst (cutV ((nats p).map V.int) none (some (n : Int))))) p1 (nats (p.take n)) := by
        unfold IsI
        rw [upd_same, cut_take, nats_take, List.map_take]
      refine ⟨_, rfl, _, rfl, _, rfl, _, rfl, _, _, rfl, rfl, .inl ⟨by decide, by decide⟩, _, rfl, a, _, rfl, SqL.of (e1 _ _ ha), fun p2 hp2 => ?_⟩
      have e2 := e1.new (o := .lst (cutV ((nats p).map V.int) (some (n : Int)) (some (2 * (n : Int))))) hp2
      have h2 : IsI (upd (upd H p1 (.lst (cutV ((nats p).map V.int) none (some (n : Int))))) p2 (.lst (cutV ((nats p).map V.int) (some (n : Int)) (some (2 * (n : Int)))))) p2 (nats ((p.drop n).take n)) := by
        unfold IsI
        rw [upd_same, show (2 * (n : Int)) = ((2 * n : Nat) : Int) by omega, cut_mid (by omega) (by rw [hlen]; exact c), show 2 * n - n = n by omega]
        unfold nats
        rw [List.map_take, List.map_drop, List.map_take, List.map_drop]
      have h1' : IsI (upd (upd H p1 (.lst (cutV ((nats p).map V.int) none (some (n : Int))))) p2 (.lst (cutV ((nats p).map V.int) (some (n : Int)) (some (2 * (n : Int)))))) p1 (nats (p.take n)) := (upd_ne (ne_of_none h1 hp2)).trans h1
      refine ⟨_, _, h1'.dp, h2.dp, shaped_ints _, shaped_ints _, ?_⟩
      have := k _ e2
      rw [show PyData.eqv (.list (dataI (nats (p.take n)))) (.list (dataI (nats ((p.drop n).take n)))) = (p.take n == (p.drop n).take n) from (eqv_ints _ _).trans (nats_beq _ _)]
      exact this
    · have := k H (Same.refl H)
      rw [decide_eq_false c] at this
      refine fls (decide_eq_false (by omega)) this
end
end Lp
namespace Lp
open PySem PySem.Spec PyProof.Rows L2
open VaaclBase (Values valueAt)
theorem neF {i j : Int} (h : i = j) : (!decide (i = j)) = false := by
  rw [decide_eq_true h]
  rfl
theorem neT {i j : Int} (h : ¬ i = j) : (!decide (i = j)) = true := by
  rw [decide_eq_false h]
  rfl
/-- the first k of a row are there twice -/
def twice (w : List Nat) (k : Nat) : Bool := decide (2 * k ≤ w.length) && w.take k == (w.drop k).take k
theorem patternAt_eq (l : LoopT) (s : Values) : Vaacle.patternAt l s = if twice (Vaacle.branchesFrom l 6 s) 1 = true then (Vaacle.branchesFrom l 6 s).take 1 else if twice (Vaacle.branchesFrom l 6 s) 2 = true then (Vaacle.branchesFrom l 6 s).take 2
    else if twice (Vaacle.branchesFrom l 6 s) 3 = true then (Vaacle.branchesFrom l 6 s).take 3 else (Vaacle.branchesFrom l 6 s).take 1 := by
  show (match [1, 2, 3].find? (twice (Vaacle.branchesFrom l 6 s)) with | some k => (Vaacle.branchesFrom l 6 s).take k | none => (Vaacle.branchesFrom l 6 s).take 1) = _
  generalize Vaacle.branchesFrom l 6 s = w
  cases h1 : twice w 1 with
  | true => simp [h1]
  | false =>
    cases h2 : twice w 2 with
    | true => simp [h1, h2]
    | false =>
      cases h3 : twice w 3 with
      | true => simp [h1, h2, h3]
      | false => simp [h1, h2, h3]
theorem branchesFrom_lt {l : LoopT} : ∀ (n : Nat) (s : Values), ∀ b ∈ Vaacle.branchesFrom l n s, b < l.length
  | 0, _, b, h => by cases h
  | n + 1, s, b, h => by
    cases hc : VaaclBase.chosen l s with
    | none =>
      rw [branchesFrom_none hc] at h
      cases h
    | some x =>
      rw [branchesFrom_some hc] at h
      rcases List.mem_cons.mp h with rfl | h
      · exact chosen_lt hc
      · exact branchesFrom_lt n _ b h
/-- what is known of a pattern at some values -/
theorem patternAt_says {l : LoopT} {s : Values} {b : Nat} (h : VaaclBase.chosen l s = some b) :
    (∀ x ∈ Vaacle.patternAt l s, x < l.length) ∧ (Vaacle.patternAt l s).length ≤ 3 ∧ ∃ r, Vaacle.patternAt l s = b :: r := by
  have hk : ∃ k, 1 ≤ k ∧ k ≤ 3 ∧ Vaacle.patternAt l s = (Vaacle.branchesFrom l 6 s).take k := by
    rw [patternAt_eq]
    split
    · exact ⟨1, by omega, by omega, rfl⟩
    · split
      · exact ⟨2, by omega, by omega, rfl⟩
      · split
        · exact ⟨3, by omega, by omega, rfl⟩
        · exact ⟨1, by omega, by omega, rfl⟩
  obtain ⟨k, h1, h3, e⟩ := hk
  rw [e]
  refine ⟨fun x hx => branchesFrom_lt 6 s x (List.mem_of_mem_take hx), by rw [List.length_take]; omega, ?_⟩
  rw [branchesFrom_some h]
  obtain ⟨j, rfl⟩ : ∃ j, k = j + 1 := ⟨k - 1, by omega⟩
  exact ⟨_, List.take_succ_cons⟩
section
variable {P : Program} {w : World} {K : PySem.W.Frag} {mg : Str → Option Value} {base : Heap}
/-! ## pattern_at -/
abbrev sPatternAt : Stmt := top 19
theorem scPatternAt : FnScope ["branches", "values", "row", "k"] ["branches", "values"] (defScope sPatternAt) := ⟨rfl, rfl, rfl, by decide +kernel, rfl, by decide +kernel, by decide +kernel⟩
def spPatternAt : Sp := fun vs H Q _ => ∃ (a b : Addr) (l : LoopT) (s : Values), vs = [.ref a, .ref b] ∧ LoopAt H a l ∧ IsI H b s ∧ GoodL s.length l ∧ s.length ≤ 4 ∧
  ∀ (H' : Hp) (p : Addr), Same H H' → H p = none → IsI H' p (nats (Vaacle.patternAt l s)) → Q (.ref p) H'
theorem ok_pattern_at (G : NamesOf mg) {f1 f2 : Addr} {d1 d2 : FuncData} (DNextBranches : Def P w K mg base CX0 4 "next_branches" ["branches", "values"] spNextBranches f1 d1)
    (DBeginsTwice : Def P w K mg base CX0 1 "begins_twice" ["row", "k"] spBeginsTwice f2 d2)
    {f : Addr} {fd : FuncData} (F : Fun K "pattern_at" "pattern_at" sPatternAt f fd) : FnOk P w K mg base CX0 5 f fd ["branches", "values"] spPatternAt := by
  refine F.ok scPatternAt (fun vs H Q E h => ?_) (fun cdv A outer s H vs Q E hr h => ⟨_, pss_cons (ps_set (i := 2) scPatternAt.nd rfl (.inl rfl) (pe_call DNextBranches.ok (hr.mono (by decide)) rfl DNextBranches.m DNextBranches.kp DNextBranches.b .nil pass0 (pa_cons (pv 0) (pa_cons (pv 1) pa_nil)))) (pss_cons (ps_for PassesOwn.never rfl (pi_range2 rfl G.range (pa_cons pe_int (pa_cons pe_int pa_nil))) (pg_name (i := 3) scPatternAt.nd rfl (.inl rfl)) (pss_one (ps_if (pt_val (pe_call DBeginsTwice.ok (hr.mono (by decide)) rfl DBeginsTwice.m DBeginsTwice.kp DBeginsTwice.b .nil pass0 (pa_cons (pv 2) (pa_cons (pv 3) pa_nil)))) (pss_one (ps_ret (pe_slice sl_list (pv 2) po_none (po_some (pv 3))))) pss_nil))) (pss_one (ps_ret (pe_slice sl_list (pv 2) po_none (po_some pe_int))))), ?_⟩)
  · obtain ⟨a, b, l, s, rfl, _⟩ := h
    rfl
  · obtain ⟨a, b, l, s, rfl, ha, hb, ok, h4, k⟩ := h
    refine ⟨_, rfl, _, rfl, a, b, l, s, rfl, ha, hb, ok, h4, fun H1 r e1 nr hr1 => ?_⟩
    have pe := patternAt_eq l s
    have len := branchesFrom_length l 6 s
    generalize Vaacle.branchesFrom l 6 s = row at pe len hr1
    refine ⟨_, _, rfl, by decide, for_range (lo := 1) (n := 3) (fun i σ H' => (∃ v : Option V, σ = [some (.ref a), some (.ref b), some (.ref r), v]) ∧ Same H1 H' ∧ ∀ j, j < i → twice row (j + 1) = false)
      ⟨⟨none, rfl⟩, Same.refl H1, fun j hj => absurd hj (Nat.not_lt_zero j)⟩ ?_ ?_⟩
    · rintro i σ H' hi ⟨⟨v, rfl⟩, e, hn⟩
      have hk1 : (1 : Int) + (i : Nat) = ((i + 1 : Nat) : Int) := by omega
      rw [hk1]
      refine ⟨_, rfl, _, rfl, r, row, i + 1, rfl, hr1.same e, len, fun H2 e2 => ⟨_, rfl, ?_⟩⟩
      cases ht : twice row (i + 1) with
      | true =>
        refine tru ht ⟨_, rfl, _, rfl, _, rfl, r, _, rfl, SqL.of (e2 _ _ (e _ _ hr1)), fun p hp => k _ p (((e1.trans e).trans e2).new hp) ((e1.trans (e.trans e2)).free hp) ?_⟩
        unfold IsI
        have : Vaacle.patternAt l s = row.take (i + 1) := by
          rw [pe]
          rcases i with _ | _ | _ | i
          · rw [if_pos ht]
          · rw [if_neg (by rw [hn 0 (by omega)]; exact Bool.false_ne_true), if_pos ht]
          · rw [if_neg (by rw [hn 0 (by omega)]; exact Bool.false_ne_true), if_neg (by rw [hn 1 (by omega)]; exact Bool.false_ne_true), if_pos ht]
          · omega
        rw [upd_same, cut_take, this, nats_take, List.map_take]
      | false =>
        refine fls ht ⟨⟨_, rfl⟩, e.trans e2, fun j hj => ?_⟩
        rcases Nat.lt_or_ge j i with c | c
        · exact hn j c
        · rw [show j = i by omega]
          exact ht
    · rintro σ H' ⟨⟨v, rfl⟩, e, hn⟩
      refine ⟨_, rfl, _, rfl, r, _, rfl, SqL.of (e _ _ hr1), fun p hp => k _ p ((e1.trans e).new hp) ((e1.trans e).free hp) ?_⟩
      unfold IsI
      have : Vaacle.patternAt l s = row.take 1 := by
        rw [pe, if_neg (by rw [hn 0 (by omega)]; exact Bool.false_ne_true), if_neg (by rw [hn 1 (by omega)]; exact Bool.false_ne_true), if_neg (by rw [hn 2 (by omega)]; exact Bool.false_ne_true)]
      rw [upd_same, show (1 : Int) = ((1 : Nat) : Int) from rfl, cut_take, this, nats_take, List.map_take]
/-! ## follow -/
abbrev sFollow : Stmt := top 20
theorem scFollow : FnScope ["branches", "pattern", "values", "after", "at"] ["branches", "pattern", "values"] (defScope sFollow) := ⟨rfl, rfl, rfl, by decide +kernel, rfl, by decide +kernel, by decide +kernel⟩
def spFollow : Sp := fun vs H Q _ => ∃ (a b c : Addr) (l : LoopT) (p : List Nat) (s : Values), vs = [.ref a, .ref b, .ref c] ∧ LoopAt H a l ∧ IsI H b (nats p) ∧ IsI H c s ∧ GoodL s.length l ∧ s.length ≤ 4 ∧ (∀ x ∈ p, x < l.length) ∧
  ∀ (H' : Hp) (t q : Addr), Same H H' → H t = none → (q = c ∨ H q = none) → H' t = some (.tup [.bl (Vaacle.followed l p s), .ref q]) → IsI H' q (if Vaacle.followed l p s = true then adv l p s else s) → Q (.ref t) H'
theorem ok_follow (G : NamesOf mg) {f1 f2 f3 : Addr} {d1 d2 d3 : FuncData} (DChosen : Def P w K mg base CX0 3 "chosen" ["branches", "values"] spChosen f1 d1)
    (DBranchMoved : Def P w K mg base CX0 2 "branch_moved" ["branches", "at", "values"] spBranchMoved f2 d2) (DIsBeyond : Def P w K mg base CX0 1 "is_beyond" ["values"] spIsBeyond f3 d3)
    {f : Addr} {fd : FuncData} (F : Fun K "follow" "follow" sFollow f fd) : FnOk P w K mg base CX0 4 f fd ["branches", "pattern", "values"] spFollow := by
  refine F.ok scFollow (fun vs H Q E h => ?_) (fun cdv A outer s H vs Q E hr h => ⟨_, pss_cons (ps_set (i := 3) scFollow.nd rfl (.inl rfl) (pv 2)) (pss_cons (ps_for PassesOwn.never rfl (pi_list (pv 1)) (pg_name (i := 4) scFollow.nd rfl (.inl rfl)) (pss_cons (ps_if (pt_cmp (pc_neI (pe_call DChosen.ok (hr.mono (by decide)) rfl DChosen.m DChosen.kp DChosen.b .nil pass0 (pa_cons (pv 0) (pa_cons (pv 3) pa_nil))) (pv 4))) (pss_one (ps_ret (pe_tup (pa_cons pe_bl (pa_cons (pv 2) pa_nil))))) pss_nil) (pss_cons (ps_set (i := 3) scFollow.nd rfl (.inl rfl) (pe_call DBranchMoved.ok (hr.mono (by decide)) rfl DBranchMoved.m DBranchMoved.kp DBranchMoved.b .nil pass0 (pa_cons (pv 0) (pa_cons (pv 4) (pa_cons (pv 3) pa_nil))))) (pss_one (ps_if (pt_val (pe_call DIsBeyond.ok (hr.mono (by decide)) rfl DIsBeyond.m DIsBeyond.kp DIsBeyond.b .nil pass0 (pa_cons (pv 3) pa_nil))) (pss_one (ps_ret (pe_tup (pa_cons pe_bl (pa_cons (pv 2) pa_nil))))) pss_nil))))) (pss_one (ps_ret (pe_tup (pa_cons pe_bl (pa_cons (pv 3) pa_nil)))))), ?_⟩)
  · obtain ⟨a, b, c, l, p, s, rfl, _⟩ := h
    rfl
  · obtain ⟨a, b, c, l, p, s, rfl, ha, hb, hc, ok, h4, hp, k⟩ := h
    refine ⟨_, rfl, _, rfl, b, rfl, ⟨_, SqL.of hb⟩, for_list (K := K) (a := b) (xs := (nats p).map V.int) (fun i σ H' => ∃ (d : Addr) (v : Option V), σ = [some (.ref a), some (.ref b), some (.ref c), some (.ref d), v] ∧ Same H H' ∧ (d = c ∨ H d = none) ∧ IsI H' d (adv l (p.take i) s) ∧
        Vaacle.followed l p s = Vaacle.followed l (p.drop i) (adv l (p.take i) s))
      ⟨c, none, rfl, Same.refl H, .inl rfl, hc, rfl⟩ (fun i σ H' _ ⟨_, _, _, e, _⟩ => SqL.of (e _ _ hb)) ?_ ?_⟩
    · rintro i y σ H' hi ⟨d, v, rfl, e, hd, hdI, eq⟩
      obtain ⟨z, hz, rfl⟩ := map_get hi
      obtain ⟨x, hx, rfl⟩ := map_get hz
      have hxl := hp x (List.mem_of_getElem? hx)
      have sl := adv_length ok (p.take i) s (fun y hy => hp y (List.mem_of_mem_take hy)) rfl
      have hdrop : p.drop i = x :: p.drop (i + 1) := by
        obtain ⟨h1, h2⟩ := List.getElem?_eq_some_iff.mp hx
        rw [← h2]
        exact List.drop_eq_getElem_cons h1
      have hadv : adv l (p.take (i + 1)) s = VaaclBase.moved (Vaacle.moveOf l x) (adv l (p.take i) s) := by
        rw [take_more hx]
        unfold adv
        rw [List.foldl_append]
        rfl
      rw [hdrop] at eq
      have out : ∀ H2 : Hp, Same H H2 → Vaacle.followed l p s = false → ∀ t : Addr, H2 t = none → Q (.ref t) (upd H2 t (.tup [.bl false, .ref c])) := fun H2 e2 hf t ht => by
        have := k (upd H2 t (.tup [.bl false, .ref c])) t c (e2.new ht) (e2.free ht) (.inl rfl)
        rw [hf] at this
        exact this upd_same ((upd_ne (ne_of_none (e2 _ _ hc) ht)).trans (e2 _ _ hc))
      refine ⟨_, rfl, _, rfl, a, d, l, _, rfl, ha.same e, hdI, by rw [sl]; exact ok, fun H2 e2 => ?_⟩
      refine ⟨_, rfl, _, _, rfl, rfl, _, rfl, ?_⟩
      by_cases c1 : VaaclBase.chosen l (adv l (p.take i) s) = some x
      · refine fls (neF (by rw [c1]; rfl)) ?_
        refine ⟨_, rfl, _, rfl, _, rfl, a, d, l, x, _, rfl, ha.same (e.trans e2), e2 _ _ hdI, by rw [sl]; exact ok, by omega, hxl, fun H3 q e3 nq hq => ?_⟩
        refine ⟨_, rfl, q, _, rfl, hq, fun H4 e4 => ⟨_, rfl, ?_⟩⟩
        by_cases c2 : VaaclBase.isBeyond (VaaclBase.moved (Vaacle.moveOf l x) (adv l (p.take i) s)) = true
        · refine tru c2 ⟨_, rfl, by show 2 ≤ sizeLine; decide, fun t ht => out H4 (((e.trans e2).trans e3).trans e4) ?_ t ht⟩
          rw [eq]
          show (VaaclBase.chosen l _ == some x && (!VaaclBase.isBeyond (VaaclBase.moved (Vaacle.moveOf l x) (adv l (p.take i) s)) && _)) = false
          rw [c2, Bool.not_true, Bool.false_and, Bool.and_false]
        · have c2 : VaaclBase.isBeyond (VaaclBase.moved (Vaacle.moveOf l x) (adv l (p.take i) s)) = false := by simpa using c2
          refine fls c2 ⟨q, _, rfl, ((e.trans e2).trans e3).trans e4, .inr ((e.trans e2).free nq), ?_, ?_⟩
          · rw [hadv]
            exact e4 _ _ hq
          · rw [eq, hadv]
            show (VaaclBase.chosen l _ == some x && (!VaaclBase.isBeyond (VaaclBase.moved (Vaacle.moveOf l x) (adv l (p.take i) s)) && _)) = _
            rw [c1, c2]
            simp
      · refine tru (neT (fun z => c1 (orNone_inj (p := some x) z))) ⟨_, rfl, by show 2 ≤ sizeLine; decide, fun t ht => out H2 (e.trans e2) ?_ t ht⟩
        rw [eq]
        show (VaaclBase.chosen l _ == some x && _) = false
        rw [show (VaaclBase.chosen l (adv l (p.take i) s) == some x) = false by simpa using c1, Bool.false_and]
    · rintro σ H' ⟨d, v, rfl, e, hd, hdI, eq⟩
      rw [List.length_map, nats_length, List.take_length, List.drop_length] at eq
      rw [List.length_map, nats_length, List.take_length] at hdI
      have ht : Vaacle.followed l p s = true := eq
      refine ⟨_, rfl, by show 2 ≤ sizeLine; decide, fun t htn => ?_⟩
      have := k (upd H' t (.tup [.bl true, .ref d])) t d (e.new htn) (e.free htn) hd
      rw [ht] at this
      exact this upd_same ((upd_ne (ne_of_none hdI htn)).trans hdI)
end
end Lp
namespace Lp
open PySem PySem.Spec PyProof.Rows L2
open VaaclBase (Values valueAt)
section
variable {P : Program} {w : World} {K : PySem.W.Frag} {mg : Str → Option Value} {base : Heap}
/-! ## sources_of -/
abbrev sSourcesOf : Stmt := top 22
theorem scSourcesOf : FnScope ["branches", "pattern", "counters", "sources", "at", "after", "source", "number", "j"] ["branches", "pattern"] (defScope sSourcesOf) := ⟨rfl, rfl, rfl, by decide +kernel, rfl, by decide +kernel, by decide +kernel⟩
/-- one counter's source behind a move's -/
def srcBehind (m : MoveT) (g : GivenT) : Int := match g.source with
  | none => -1
  | some j => VaaclBase.orNone (src m j)
theorem srcs_andThen (m k : MoveT) : srcs (Vaaclb.andThen m k) = k.map (srcBehind m) := by
  unfold srcs Vaaclb.andThen
  rw [List.map_map]
  apply List.map_congr_left
  intro g _
  show VaaclBase.orNone (Vaaclb.behind m g).source = srcBehind m g
  unfold Vaaclb.behind srcBehind
  cases h : g.source with
  | none =>
    show VaaclBase.orNone g.source = -1
    rw [h]
    rfl
  | some j => rfl
theorem srcs_get {m : MoveT} {j : Nat} (h : j < m.length) : ((srcs m).map V.int)[j]? = some (.int (VaaclBase.orNone (src m j))) := by
  unfold srcs src Vaaclb.givenAt
  rw [List.getElem?_map, List.getElem?_map, List.getElem?_eq_getElem h]
  rfl
theorem srcs_still (n : Nat) : srcs (VaaclBase.still n) = (List.range n).map fun (i : Nat) => (i : Int) := by
  unfold srcs VaaclBase.still
  rw [List.map_map]
  rfl
theorem comp_more (l : LoopT) (m : MoveT) {p : List Nat} {i x : Nat} (h : p[i]? = some x) : comp l m (p.take (i + 1)) = Vaaclb.andThen (comp l m (p.take i)) (Vaacle.moveOf l x) := by
  rw [take_more h]
  unfold comp
  rw [List.foldl_append]
  rfl
def spSourcesOf : Sp := fun vs H Q _ => ∃ (a b : Addr) (n : Nat) (l : LoopT) (p : List Nat), vs = [.ref a, .ref b] ∧ LoopAt H a l ∧ IsI H b (nats p) ∧ GoodL n l ∧ n ≤ 4 ∧ (∀ x ∈ p, x < l.length) ∧
  ∀ (H' : Hp) (q : Addr), Same H H' → H q = none → IsI H' q (srcs (patM l n p)) → Q (.ref q) H'
theorem ok_sources_of (G : NamesOf mg) {f : Addr} {fd : FuncData} (F : Fun K "sources_of" "sources_of" sSourcesOf f fd) : FnOk P w K mg base CX0 1 f fd ["branches", "pattern"] spSourcesOf := by
  refine F.ok scSourcesOf (fun vs H Q E h => ?_) (fun cdv A outer s H vs Q E hr h => ⟨_, pss_cons (ps_set (i := 2) scSourcesOf.nd rfl (.inl rfl) (pe_callB call_len_seq (by rfl) G.len PySem.boot_len (pa_cons (pe_ix ix_tup (pe_ix ix_list (pv 0) pe_int (fun _ _ => rfl)) pe_int (fun _ _ => rfl)) pa_nil))) (pss_cons (ps_setLc (i := 3) (own := [("j", 8)]) (g := gName 8) (tt := tYes) rfl scSourcesOf.nd rfl rfl (sw_true rfl rfl rfl (by decide +kernel)) (pi_range1 rfl G.range (pa_cons (pv 2) pa_nil)) (blkOk_by (own := [("j", 8)]) (N := ["branches", "pattern", "counters", "sources", "at", "after", "source", "number", "j"]) (sc := defScope sSourcesOf) (by decide +kernel)) (fun _ _ _ _ _ => pg_name (i := 8) scSourcesOf.nd rfl (Or.inl rfl)) (fun _ _ _ _ _ => pts_nil) (fun _ _ _ _ _ => (pv 8))) (pss_cons (ps_for PassesOwn.never rfl (pi_list (pv 1)) (pg_name (i := 4) scSourcesOf.nd rfl (.inl rfl)) (pss_cons (ps_set (i := 5) scSourcesOf.nd rfl (.inl rfl) (pe_lst pa_nil)) (pss_cons (ps_for PassesOwn.never rfl (pi_list (pe_ix ix_tup (pe_ix ix_list (pv 0) (pv 4) (fun _ _ => rfl)) pe_int (fun _ _ => rfl))) (pg_tup rfl (pgs_cons (pg_name (i := 6) scSourcesOf.nd rfl (.inl rfl)) (pgs_cons (pg_name (i := 7) scSourcesOf.nd rfl (.inl rfl)) pgs_nil))) (pss_one (ps_if (pt_cmp (pc_lt (pv 6) pe_int)) (pss_one (ps_expr (pe_bm PySem.F.plainAttrs_list PySem.F.slot_list_append PySem.F.type_list_append mt_append (pv 5) (pa_cons (pe_un un_neg pe_int) pa_nil)))) (pss_one (ps_expr (pe_bm PySem.F.plainAttrs_list PySem.F.slot_list_append PySem.F.type_list_append mt_append (pv 5) (pa_cons (pe_ix ix_list (pv 3) (pv 6) (fun _ _ => rfl)) pa_nil))))))) (pss_one (ps_set (i := 3) scSourcesOf.nd rfl (.inl rfl) (pv 5)))))) (pss_one (ps_ret (pv 3))))), ?_⟩)
  · obtain ⟨a, b, n, l, p, rfl, _⟩ := h
    rfl
  · obtain ⟨a, b, n, l, p, rfl, ⟨ts, hta, et⟩, hb, ok, h4, hp, k⟩ := h
    have hl0 : 0 < l.length := List.length_pos_iff.mpr ok.1
    obtain ⟨t0, ht0, g0, m0, hX0, hg0, hm0⟩ := et.back (branchAt_get hl0)
    have htr0 : (ts.map V.ref)[0]? = some (.ref t0) := by
      rw [List.getElem?_map, ht0]
      rfl
    obtain ⟨us0, hu0, eu0⟩ := hm0
    have mlen : (us0.map V.ref).length = n := by rw [List.length_map, eu0.length, (ok.at_ hl0).1.1]
    refine ⟨_, rfl, a, _, _, _, rfl, rfl, SqL.of hta, atI_nat (j := 0) htr0, t0, _, _, _, rfl, rfl, SqT.of hX0, atI_nat (j := 1) rfl, m0, _, rfl, .inl (SqL.of hu0), ?_⟩
    rw [mlen]
    refine ⟨_, rfl, _, rfl, by omega, by omega, fun D hD => ?_⟩
    rw [Int.toNat_natCast]
    refine lc_range (lo := 0) (n := n) (fun i H' => Same H H' ∧ IsI H' D ((List.range i).map fun (i : Nat) => (i : Int))) ⟨(Same.refl H).new hD, upd_same⟩ ?_ ?_
    · rintro i H' hi ⟨e, hL⟩
      refine ⟨rfl, ?_⟩
      refine ⟨_, rfl, _, hL, by rw [List.length_map, List.length_map, List.length_range]; exact sizeOk (by omega), e.put hD, ?_⟩
      unfold IsI
      rw [upd_same, List.range_succ, List.map_append, List.map_append, Int.zero_add]
      rfl
    · rintro H1 ⟨e1, hL1⟩
      refine ⟨_, rfl, b, rfl, ⟨_, SqL.of (e1 _ _ hb)⟩, for_list (K := K) (a := b) (xs := (nats p).map V.int) (fun i σ H' => ∃ (c : Addr) (v1 v2 v3 v4 v5 : Option V), σ = [some (.ref a), some (.ref b), some (.int (n : Nat)), some (.ref c), v1, v2, v3, v4, v5] ∧ Same H H' ∧ H c = none ∧ IsI H' c (srcs (comp l (VaaclBase.still n) (p.take i))))
        ⟨D, none, none, none, none, none, rfl, e1, hD, by rw [List.take_zero]; show IsI H1 D (srcs (VaaclBase.still n)); rw [srcs_still]; exact hL1⟩ (fun i σ H' _ ⟨_, _, _, _, _, _, _, e, _⟩ => SqL.of (e _ _ hb)) ?_ ?_⟩
      · rintro i y σ H' hi ⟨c, v1, v2, v3, v4, v5, rfl, e, nc, hc⟩
        obtain ⟨z, hz, rfl⟩ := map_get hi
        obtain ⟨x, hx, rfl⟩ := map_get hz
        have hxl := hp x (List.mem_of_getElem? hx)
        have okc : OkM n (comp l (VaaclBase.still n) (p.take i)) := comp_ok ok.ok (fun y hy => hp y (List.mem_of_mem_take hy)) (OkM.still n)
        generalize hmm : comp l (VaaclBase.still n) (p.take i) = mc at okc hc
        refine ⟨by show 0 ≤ sizeLine; decide, fun r hr0 => ?_⟩
        have e2 : Same H (upd H' r (.lst [])) := e.new hr0
        have crr : c ≠ r := ne_of_none hc hr0
        have nr : H r = none := e.free hr0
        obtain ⟨t, ht, g, m, hX, hg, us, hu, eu⟩ := et.back (branchAt_get hxl)
        have htr : (ts.map V.ref)[x]? = some (.ref t) := by
          rw [List.getElem?_map, ht]
          rfl
        have okx : OkM n (VaaclBase.branchAt l x).move := (ok.at_ hxl).1
        refine ⟨_, rfl, _, rfl, a, _, _, _, rfl, rfl, SqL.of (e2 _ _ hta), atI_nat htr, t, _, _, _, rfl, rfl, SqT.of (e2 _ _ hX), atI_nat (j := 1) rfl, m, rfl, ⟨_, SqL.of (e2 _ _ hu)⟩, ?_⟩
        refine for_list (K := K) (a := m) (xs := us.map V.ref) (fun j σ H2 => (∃ v3 v4 : Option V, σ = [some (.ref a), some (.ref b), some (.int (n : Nat)), some (.ref c), some (.int (x : Nat)), some (.ref r), v3, v4, v5]) ∧ Same H H2 ∧ IsI H2 c (srcs mc) ∧ IsI H2 r (((VaaclBase.branchAt l x).move.take j).map (srcBehind mc)))
          ⟨⟨_, _, rfl⟩, e2, (upd_ne crr).trans hc, upd_same⟩ (fun i σ H' _ ⟨_, e, _⟩ => SqL.of (e _ _ hu)) ?_ ?_
        · rintro j y σ H2 hj ⟨⟨v3, v4, rfl⟩, e3, hc3, hL3⟩
          obtain ⟨u, hut, rfl⟩ := map_get hj
          obtain ⟨gv, hgv, hG⟩ := eu.get hut
          refine ⟨u, _, rfl, SqT.of (e3 _ _ hG), rfl, _, _, rfl, _, _, rfl, rfl, _, rfl, _, _, rfl, rfl, _, rfl, ?_⟩
          have fin : ∀ z : Int, z = srcBehind mc gv → IsI (upd H2 r (.lst ((((VaaclBase.branchAt l x).move.take j).map (srcBehind mc)).map V.int ++ [.int z]))) r (((VaaclBase.branchAt l x).move.take (j + 1)).map (srcBehind mc)) := by
            intro z hz
            unfold IsI
            rw [upd_same, take_more hgv, hz, List.map_append, List.map_append]
            rfl
          have hlen : ((((VaaclBase.branchAt l x).move.take j).map (srcBehind mc)).map V.int).length < sizeLine := by
            rw [List.length_map, List.length_map, List.length_take]
            exact sizeOk (by have := okx.1; omega)
          by_cases c0 : VaaclBase.orNone gv.source < 0
          · refine tru (decide_eq_true c0) ?_
            refine ⟨_, rfl, .inl ⟨rfl, _, SqL.of hL3⟩, _, rfl, r, _, _, rfl, rfl, hL3, hlen, ⟨_, _, rfl⟩, e3.put nr, (upd_ne crr).trans hc3, fin _ ?_⟩
            unfold srcBehind
            rw [orNone_neg c0]
          · refine fls (decide_eq_false c0) ?_
            obtain ⟨q, hq⟩ : ∃ q, gv.source = some q := by
              cases hs : gv.source with
              | none =>
                rw [hs] at c0
                exact absurd (show (-1 : Int) < 0 by omega) c0
              | some q => exact ⟨q, rfl⟩
            have hqs := okx.2 gv (List.mem_of_getElem? hgv) q hq
            have hqo : VaaclBase.orNone gv.source = ((q : Nat) : Int) := by
              rw [hq]
              rfl
            rw [hqo]
            refine ⟨_, rfl, .inl ⟨rfl, _, SqL.of hL3⟩, _, rfl, _, rfl, c, _, _, _, rfl, rfl, SqL.of hc3, atI_nat (srcs_get (by rw [okc.1]; exact hqs)), r, _, _, rfl, rfl, hL3, hlen, ⟨_, _, rfl⟩, e3.put nr, (upd_ne crr).trans hc3, fin _ ?_⟩
            unfold srcBehind
            rw [hq]
        · rintro σ H2 ⟨⟨v3, v4, rfl⟩, e3, hc3, hL3⟩
          rw [List.length_map, eu.length, List.take_length] at hL3
          refine ⟨_, rfl, r, _, _, _, _, _, rfl, e3, nr, ?_⟩
          rw [comp_more l _ hx, hmm, srcs_andThen]
          exact hL3
      · rintro σ H' ⟨c, v1, v2, v3, v4, v5, rfl, e, nc, hc⟩
        rw [List.length_map, nats_length, List.take_length] at hc
        exact ⟨_, rfl, k H' c e nc hc⟩
/-! ## circle_of -/
abbrev sCircleOf : Stmt := top 23
theorem scCircleOf : FnScope ["sources", "counter", "at", "many"] ["sources", "counter"] (defScope sCircleOf) := ⟨rfl, rfl, rfl, by decide +kernel, rfl, by decide +kernel, by decide +kernel⟩
def spCircleOf : Sp := fun vs H Q _ => ∃ (a : Addr) (l : List Int) (c : Int), vs = [.ref a, .int c] ∧ IsI H a l ∧ l.length ≤ 4 ∧ (∀ x ∈ l, -1 ≤ x ∧ x < l.length) ∧ 0 ≤ c ∧ c < l.length ∧ Q (.int (circ l c)) H
theorem ok_circle_of (G : NamesOf mg) {f : Addr} {fd : FuncData} (F : Fun K "circle_of" "circle_of" sCircleOf f fd) : FnOk P w K mg base CX0 1 f fd ["sources", "counter"] spCircleOf := by
  refine F.ok scCircleOf (fun vs H Q E h => ?_) (fun cdv A outer s H vs Q E hr h => ⟨_, pss_cons (ps_set (i := 2) scCircleOf.nd rfl (.inl rfl) (pv 1)) (pss_cons (ps_for PassesOwn.never rfl (pi_range2 rfl G.range (pa_cons pe_int (pa_cons (pe_op op_add (pe_callB call_len_seq (by rfl) G.len PySem.boot_len (pa_cons (pv 0) pa_nil)) pe_int) pa_nil))) (pg_name (i := 3) scCircleOf.nd rfl (.inl rfl)) (pss_cons (ps_set (i := 2) scCircleOf.nd rfl (.inl rfl) (pe_ix ix_list (pv 0) (pv 2) (fun _ _ => rfl))) (pss_cons (ps_if (pt_cmp (pc_lt (pv 2) pe_int)) (pss_one (ps_ret pe_int)) pss_nil) (pss_one (ps_if (pt_cmp (pc_eqI (pv 2) (pv 1))) (pss_one (ps_ret (pv 3))) pss_nil))))) (pss_one (ps_ret pe_int))), ?_⟩)
  · obtain ⟨a, l, c, rfl, _⟩ := h
    rfl
  · obtain ⟨a, l, c, rfl, ha, h4, hl, h0, hc, k⟩ := h
    refine ⟨_, rfl, _, rfl, a, _, rfl, .inl (SqL.of ha), _, _, rfl, rfl, _, _, rfl, ⟨by decide, by decide, by omega, by rw [List.length_map]; omega⟩, ?_⟩
    rw [List.length_map, show (((l.length : Nat) : Int) + 1 - 1).toNat = l.length by omega]
    refine for_range (lo := 1) (n := l.length) (fun i σ H' => ∃ (at_ : Int) (v : Option V), σ = [some (.ref a), some (.int c), some (.int at_), v] ∧ H' = H ∧ 0 ≤ at_ ∧ at_ < l.length ∧ circ l c = circGo l c (l.length - i) (1 + i) at_)
      ⟨c, none, rfl, rfl, h0, hc, rfl⟩ ?_ ?_
    · rintro i σ H' hi ⟨at_, v, rfl, rfl, a0, al, eq⟩
      obtain ⟨j, rfl⟩ : ∃ j : Nat, at_ = j := ⟨at_.toNat, by omega⟩
      have hj : j < l.length := by omega
      have hg : (l.map V.int)[j]? = some (.int (getI l j)) := by
        unfold getI
        rw [List.getElem?_map, List.getElem?_eq_getElem hj, Int.toNat_natCast, List.getD_eq_getElem?_getD, List.getElem?_eq_getElem hj]
        rfl
      have hb : -1 ≤ getI l j ∧ getI l j < l.length := hl _ (by
        unfold getI
        rw [Int.toNat_natCast, List.getD_eq_getElem?_getD, List.getElem?_eq_getElem hj]
        exact List.getElem_mem hj)
      rw [show l.length - i = (l.length - (i + 1)) + 1 by omega] at eq
      refine ⟨_, rfl, _, rfl, a, _, _, _, rfl, rfl, SqL.of ha, atI_nat hg, ?_⟩
      refine ⟨_, rfl, _, _, rfl, rfl, _, rfl, ?_⟩
      unfold circGo at eq
      by_cases c1 : getI l j < 0
      · rw [if_pos c1] at eq
        rw [eq] at k
        exact tru (decide_eq_true c1) k
      · rw [if_neg c1] at eq
        refine fls (decide_eq_false c1) ⟨_, rfl, _, rfl, _, _, rfl, rfl, _, rfl, ?_⟩
        by_cases c2 : getI l j = c
        · rw [if_pos c2] at eq
          rw [eq] at k
          exact tru (decide_eq_true c2) ⟨_, rfl, k⟩
        · rw [if_neg c2] at eq
          refine fls (decide_eq_false c2) ⟨_, _, rfl, rfl, by omega, hb.2, ?_⟩
          rw [eq, show (1 : Int) + (i : Nat) + 1 = 1 + ((i + 1 : Nat) : Int) by omega]
    · rintro σ H' ⟨at_, v, rfl, rfl, a0, al, eq⟩
      rw [Nat.sub_self] at eq
      rw [eq] at k
      exact k
/-! ## common_multiple -/
abbrev sCommonMultiple : Stmt := top 24
theorem scCommonMultiple : FnScope ["a", "b", "many"] ["a", "b"] (defScope sCommonMultiple) := ⟨rfl, rfl, rfl, by decide +kernel, rfl, by decide +kernel, by decide +kernel⟩
def spCommonMultiple : Sp := fun vs H Q _ => ∃ (a b : Int), vs = [.int a, .int b] ∧ 1 ≤ a ∧ a ≤ 4 ∧ 1 ≤ b ∧ b ≤ 4 ∧ Q (.int (cm a b)) H
theorem steps_of : ∀ a b : Fin 5, 1 ≤ (a : Nat) → 1 ≤ (b : Nat) → RgC ((a : Nat) : Int) (((a : Nat) : Int) * ((b : Nat) : Int)) ((a : Nat) : Int) ((((b : Nat) : Int) - 1).toNat) := by
  unfold RgC
  decide
theorem ok_common_multiple (G : NamesOf mg) {f : Addr} {fd : FuncData} (F : Fun K "common_multiple" "common_multiple" sCommonMultiple f fd) : FnOk P w K mg base CX0 1 f fd ["a", "b"] spCommonMultiple := by
  refine F.ok scCommonMultiple (fun vs H Q E h => ?_) (fun cdv A outer s H vs Q E hr h => ⟨_, pss_cons (ps_for PassesOwn.never rfl (pi_range3 rfl G.range (pa_cons (pv 0) (pa_cons (pe_op op_mul (pv 0) (pv 1)) (pa_cons (pv 0) pa_nil)))) (pg_name (i := 2) scCommonMultiple.nd rfl (.inl rfl)) (pss_one (ps_if (pt_cmp (pc_eqI (pe_op op_modN (pv 2) (pv 1)) pe_int)) (pss_one (ps_ret (pv 2))) pss_nil))) (pss_one (ps_ret (pe_op op_mul (pv 0) (pv 1)))), ?_⟩)
  · obtain ⟨a, b, rfl, _⟩ := h
    rfl
  · obtain ⟨a, b, rfl, a1, a4, b1, b4, k⟩ := h
    have rg : RgC a (a * b) a (b - 1).toNat := by
      have := steps_of ⟨a.toNat, by omega⟩ ⟨b.toNat, by omega⟩ (by show 1 ≤ a.toNat; omega) (by show 1 ≤ b.toNat; omega)
      rw [show ((a.toNat : Nat) : Int) = a by omega, show ((b.toNat : Nat) : Int) = b by omega] at this
      exact this
    refine ⟨_, rfl, _, rfl, _, rfl, _, _, rfl, rfl, .inl ⟨by omega, by omega⟩, _, rfl, _, _, _, _, rfl, rg, ?_⟩
    refine for_rangeC (lo := a) (c := a) (n := (b - 1).toNat) (fun i σ H' => ∃ v : Option V, σ = [some (.int a), some (.int b), v] ∧ H' = H ∧ cm a b = cmGo a b ((b - 1).toNat - i) (a + (i : Nat) * a))
      ⟨none, rfl, rfl, by unfold cm; rw [Nat.sub_zero]; congr 1; simp⟩ ?_ ?_
    · rintro i σ H' hi ⟨v, rfl, rfl, eq⟩
      rw [show (b - 1).toNat - i = ((b - 1).toNat - (i + 1)) + 1 by omega] at eq
      unfold cmGo at eq
      refine ⟨_, rfl, _, rfl, _, _, rfl, rfl, by omega, _, _, rfl, rfl, _, rfl, ?_⟩
      by_cases c : (a + (i : Nat) * a) % b = 0
      · rw [if_pos c] at eq
        rw [eq] at k
        exact tru (decide_eq_true (by rw [Int.fmod_eq_emod_of_nonneg _ (by omega)]; exact c)) ⟨_, rfl, k⟩
      · rw [if_neg c] at eq
        refine fls (decide_eq_false (by rw [Int.fmod_eq_emod_of_nonneg _ (by omega)]; exact c)) ⟨_, rfl, rfl, ?_⟩
        rw [eq]
        congr 1
        rw [show ((i + 1 : Nat) : Int) = (i : Int) + 1 by omega, Int.add_mul]
        omega
    · rintro σ H' ⟨v, rfl, rfl, eq⟩
      rw [Nat.sub_self] at eq
      rw [eq] at k
      exact ⟨_, rfl, _, rfl, _, _, rfl, rfl, .inl ⟨by omega, by omega⟩, k⟩
/-! ## asks_remainder -/
abbrev sAsksRemainder : Stmt := top 25
theorem scAsksRemainder : FnScope ["branches", "tests", "move", "test"] ["branches"] (defScope sAsksRemainder) := ⟨rfl, rfl, rfl, by decide +kernel, rfl, by decide +kernel, by decide +kernel⟩
def spAsksRemainder : Sp := fun vs H Q _ => ∃ (a : Addr) (l : LoopT), vs = [.ref a] ∧ LoopAt H a l ∧ ∀ H' : Hp, Same H H' → Q (.bl (hasRem l)) H'
theorem kind_three (t : TestT) : ∃ k r, test4 t = k :: r ∧ (k = 3 ↔ isRem t = true) := by
  cases t with
  | atMost x c => exact ⟨0, _, rfl, by show (0 : Int) = 3 ↔ false = true; decide⟩
  | atLeast x c => exact ⟨1, _, rfl, by show (1 : Int) = 3 ↔ false = true; decide⟩
  | below x y c => exact ⟨2, _, rfl, by show (2 : Int) = 3 ↔ false = true; decide⟩
  | rem x m r => exact ⟨3, _, rfl, by show (3 : Int) = 3 ↔ true = true; decide⟩
theorem ok_asks_remainder (G : NamesOf mg) {f : Addr} {fd : FuncData} (F : Fun K "asks_remainder" "asks_remainder" sAsksRemainder f fd) : FnOk P w K mg base CX0 1 f fd ["branches"] spAsksRemainder := by
  refine F.ok scAsksRemainder (fun vs H Q E h => ?_) (fun cdv A outer s H vs Q E hr h => ⟨_, pss_cons (ps_for PassesOwn.never rfl (pi_list (pv 0)) (pg_tup rfl (pgs_cons (pg_name (i := 1) scAsksRemainder.nd rfl (.inl rfl)) (pgs_cons (pg_name (i := 2) scAsksRemainder.nd rfl (.inl rfl)) pgs_nil))) (pss_one (ps_for PassesOwn.never rfl (pi_list (pv 1)) (pg_name (i := 3) scAsksRemainder.nd rfl (.inl rfl)) (pss_one (ps_if (pt_cmp (pc_eqI (pe_ix ix_tup (pv 3) pe_int (fun _ _ => rfl)) pe_int)) (pss_one (ps_ret pe_bl)) pss_nil))))) (pss_one (ps_ret pe_bl)), ?_⟩)
  · obtain ⟨a, l, rfl, _⟩ := h
    rfl
  · obtain ⟨a, l, rfl, ⟨ts, ha, et⟩, k⟩ := h
    refine ⟨_, rfl, a, rfl, ⟨_, SqL.of ha⟩, for_list (K := K) (a := a) (xs := ts.map V.ref) (fun i σ H' => (∃ v1 v2 v3 : Option V, σ = [some (.ref a), v1, v2, v3]) ∧ Same H H' ∧ hasRem (l.take i) = false)
      ⟨⟨none, none, none, rfl⟩, Same.refl H, rfl⟩ (fun i σ H' _ ⟨_, e, _⟩ => SqL.of (e _ _ ha)) ?_ ?_⟩
    · rintro i y σ H' hi ⟨⟨v1, v2, v3, rfl⟩, e, hn⟩
      obtain ⟨t, ht, rfl⟩ := map_get hi
      obtain ⟨br, hbr, g, m, hX, ⟨us, hu, eu⟩, hm⟩ := et.get ht
      refine ⟨t, _, rfl, SqT.of (e _ _ hX), rfl, _, _, rfl, _, _, rfl, rfl, ?_⟩
      refine ⟨_, rfl, g, rfl, ⟨_, SqL.of (e _ _ hu)⟩, for_list (K := K) (a := g) (xs := us.map V.ref) (fun j σ H2 => (∃ v3 : Option V, σ = [some (.ref a), some (.ref g), some (.ref m), v3]) ∧ Same H H2 ∧ (br.guard.take j).any isRem = false)
        ⟨⟨_, rfl⟩, e, rfl⟩ (fun i σ H' _ ⟨_, e, _⟩ => SqL.of (e _ _ hu)) ?_ ?_⟩
      · rintro j y σ H2 hj ⟨⟨v3, rfl⟩, e2, hn2⟩
        obtain ⟨u, hut, rfl⟩ := map_get hj
        obtain ⟨x, hx, hX2⟩ := eu.get hut
        obtain ⟨kd, rs, h4, h3⟩ := kind_three x
        have hX3 : H2 u = some (.tup (.int kd :: rs.map V.int)) := by
          have := e2 _ _ hX2
          rw [h4] at this
          exact this
        refine ⟨_, rfl, u, _, _, _, rfl, rfl, SqT.of hX3, atI_nat (j := 0) rfl, _, _, rfl, rfl, _, rfl, ?_⟩
        by_cases c : kd = 3
        · refine tru (decide_eq_true c) ?_
          have := k H2 e2
          rw [show hasRem l = true by
            unfold hasRem
            rw [List.any_eq_true]
            exact ⟨br, List.mem_of_getElem? hbr, by
              rw [List.any_eq_true]
              exact ⟨x, List.mem_of_getElem? hx, h3.mp c⟩⟩] at this
          exact this
        · refine fls (decide_eq_false c) ⟨⟨_, rfl⟩, e2, ?_⟩
          rw [take_more hx, List.any_append, hn2]
          show (false || (isRem x || false)) = false
          rw [show isRem x = false by simpa using fun z => c (h3.mpr z)]
          rfl
      · rintro σ H2 ⟨⟨v3, rfl⟩, e2, hn2⟩
        rw [List.length_map, eu.length, List.take_length] at hn2
        refine ⟨⟨_, _, _, rfl⟩, e2, ?_⟩
        rw [take_more hbr]
        unfold hasRem at hn ⊢
        rw [List.any_append, hn]
        show (false || (br.guard.any isRem || false)) = false
        rw [hn2]
        rfl
    · rintro σ H' ⟨⟨v1, v2, v3, rfl⟩, e, hn⟩
      rw [List.length_map, et.length, List.take_length] at hn
      have := k H' e
      rw [hn] at this
      exact this
/-! ## period -/
abbrev sPeriod : Stmt := top 26
theorem scPeriod : FnScope ["branches", "pattern", "sources", "around", "counter", "many"] ["branches", "pattern"] (defScope sPeriod) := ⟨rfl, rfl, rfl, by decide +kernel, rfl, by decide +kernel, by decide +kernel⟩
/-- so many times the pattern -/
def periodOf (l : LoopT) (n : Nat) (p : List Nat) : Int := if hasRem l = true then 12 * aroundOf (srcs (patM l n p)) else aroundOf (srcs (patM l n p))
def spPeriod : Sp := fun vs H Q _ => ∃ (a b : Addr) (n : Nat) (l : LoopT) (p : List Nat), vs = [.ref a, .ref b] ∧ LoopAt H a l ∧ IsI H b (nats p) ∧ GoodL n l ∧ n ≤ 4 ∧ (∀ x ∈ p, x < l.length) ∧
  ∀ H' : Hp, Same H H' → Q (.int (periodOf l n p)) H'
theorem ok_period (G : NamesOf mg) {f1 f2 f3 f4 : Addr} {d1 d2 d3 d4 : FuncData} (DSourcesOf : Def P w K mg base CX0 1 "sources_of" ["branches", "pattern"] spSourcesOf f1 d1)
    (DCircleOf : Def P w K mg base CX0 1 "circle_of" ["sources", "counter"] spCircleOf f2 d2) (DCommonMultiple : Def P w K mg base CX0 1 "common_multiple" ["a", "b"] spCommonMultiple f3 d3)
    (DAsksRemainder : Def P w K mg base CX0 1 "asks_remainder" ["branches"] spAsksRemainder f4 d4)
    {f : Addr} {fd : FuncData} (F : Fun K "period" "period" sPeriod f fd) : FnOk P w K mg base CX0 2 f fd ["branches", "pattern"] spPeriod := by
  refine F.ok scPeriod (fun vs H Q E h => ?_) (fun cdv A outer s H vs Q E hr h => ⟨_, pss_cons (ps_set (i := 2) scPeriod.nd rfl (.inl rfl) (pe_call DSourcesOf.ok (hr.mono (by decide)) rfl DSourcesOf.m DSourcesOf.kp DSourcesOf.b .nil pass0 (pa_cons (pv 0) (pa_cons (pv 1) pa_nil)))) (pss_cons (ps_set (i := 3) scPeriod.nd rfl (.inl rfl) pe_int) (pss_cons (ps_for PassesOwn.never rfl (pi_range1 rfl G.range (pa_cons (pe_callB call_len_seq (by rfl) G.len PySem.boot_len (pa_cons (pv 2) pa_nil)) pa_nil)) (pg_name (i := 4) scPeriod.nd rfl (.inl rfl)) (pss_cons (ps_set (i := 5) scPeriod.nd rfl (.inl rfl) (pe_call DCircleOf.ok (hr.mono (by decide)) rfl DCircleOf.m DCircleOf.kp DCircleOf.b .nil pass0 (pa_cons (pv 2) (pa_cons (pv 4) pa_nil)))) (pss_one (ps_if (pt_cmp (pc_gt (pv 5) pe_int)) (pss_one (ps_set (i := 3) scPeriod.nd rfl (.inl rfl) (pe_call DCommonMultiple.ok (hr.mono (by decide)) rfl DCommonMultiple.m DCommonMultiple.kp DCommonMultiple.b .nil pass0 (pa_cons (pv 3) (pa_cons (pv 5) pa_nil))))) pss_nil)))) (pss_cons (ps_if (pt_val (pe_call DAsksRemainder.ok (hr.mono (by decide)) rfl DAsksRemainder.m DAsksRemainder.kp DAsksRemainder.b .nil pass0 (pa_cons (pv 0) pa_nil))) (pss_one (ps_ret (pe_op op_mul pe_int (pv 3)))) pss_nil) (pss_one (ps_ret (pv 3)))))), ?_⟩)
  · obtain ⟨a, b, n, l, p, rfl, _⟩ := h
    rfl
  · obtain ⟨a, b, n, l, p, rfl, ha, hb, ok, h4, hp, k⟩ := h
    refine ⟨_, rfl, _, rfl, a, b, n, l, p, rfl, ha, hb, ok, h4, hp, fun H1 c e1 nc hc => ?_⟩
    have okm := patM_ok (n := n) ok.ok hp
    have hsl := okm.srcs
    have hlen : (srcs (patM l n p)).length = n := by rw [srcs_length, okm.1]
    have chk := check_at (by rw [hlen]; exact h4) hsl
    unfold periodOf at k
    generalize srcs (patM l n p) = S at hc k hsl hlen chk
    have pre : ∀ i, i < n → 0 ≤ circ S (i : Nat) ∧ circ S (i : Nat) ≤ 4 := fun i hi => by
      have := chk.2.1
      unfold checkPre at this
      rw [List.all_eq_true] at this
      have := this i (List.mem_range.mpr (by omega))
      rw [Bool.and_eq_true, decide_eq_true_eq, decide_eq_true_eq] at this
      exact this
    have fold : ∀ i, i ≤ n → 1 ≤ ((List.range i).foldl (aroundTurn S) 1) ∧ ((List.range i).foldl (aroundTurn S) 1) ≤ 4 := fun i hi => by
      have := chk.2.2
      unfold checkFold at this
      rw [List.all_eq_true] at this
      have := this i (List.mem_range.mpr (by omega))
      rw [Bool.and_eq_true, decide_eq_true_eq, decide_eq_true_eq] at this
      exact this
    refine ⟨_, rfl, c, _, rfl, .inl (SqL.of hc), _, rfl, by omega, by rw [List.length_map]; omega, ?_⟩
    rw [List.length_map, hlen, Int.toNat_natCast]
    refine for_range (lo := 0) (n := n) (fun i σ H' => (∃ v1 v2 : Option V, σ = [some (.ref a), some (.ref b), some (.ref c), some (.int ((List.range i).foldl (aroundTurn S) 1)), v1, v2]) ∧ Same H1 H')
      ⟨⟨none, none, rfl⟩, Same.refl H1⟩ ?_ ?_
    · rintro i σ H' hi ⟨⟨v1, v2, rfl⟩, e⟩
      rw [Int.zero_add]
      refine ⟨_, rfl, _, rfl, c, S, _, rfl, hc.same e, by omega, hsl, by omega, by omega, ?_⟩
      have b1 := pre i hi
      have b2 := fold i (by omega)
      have turn : (List.range (i + 1)).foldl (aroundTurn S) 1 = aroundTurn S ((List.range i).foldl (aroundTurn S) 1) i := by
        rw [List.range_succ, List.foldl_append]
        rfl
      refine ⟨_, rfl, _, _, rfl, rfl, _, rfl, ?_⟩
      by_cases c0 : 0 < circ S (i : Nat)
      · refine tru (decide_eq_true c0) ⟨_, rfl, _, rfl, _, _, rfl, b2.1, b2.2, by omega, b1.2, ⟨some (.int (i : Nat)), some (.int (circ S (i : Nat))), ?_⟩, e⟩
        rw [turn]
        unfold aroundTurn
        rw [if_pos c0]
        rfl
      · refine fls (decide_eq_false c0) ⟨⟨some (.int (i : Nat)), some (.int (circ S (i : Nat))), ?_⟩, e⟩
        rw [turn]
        unfold aroundTurn
        rw [if_neg c0]
        rfl
    · rintro σ H' ⟨⟨v1, v2, rfl⟩, e⟩
      refine ⟨_, rfl, a, l, rfl, ha.same (e1.trans e), fun H2 e2 => ⟨_, rfl, ?_⟩⟩
      have kk := k H2 ((e1.trans e).trans e2)
      have ea : aroundOf S = (List.range n).foldl (aroundTurn S) 1 := by
        unfold aroundOf
        rw [hlen]
      cases hr : hasRem l with
      | true =>
        rw [hr, if_pos rfl, ea] at kk
        have := fold n (Nat.le_refl n)
        exact tru rfl ⟨_, rfl, _, _, rfl, rfl, .inl ⟨by decide, by decide⟩, kk⟩
      | false =>
        rw [hr, if_neg Bool.false_ne_true, ea] at kk
        exact fls rfl ⟨_, rfl, kk⟩
end
end Lp
namespace Lp
open PySem PySem.Spec PyProof.Rows L2
open VaaclBase (Values valueAt)
theorem along_range {v d : Values} (h : v.length = d.length) (k : Int) : along v d k = (List.range v.length).map fun j => valueAt v j + k * valueAt d j := by
  apply values_ext
  · rw [along_length h, List.length_map, List.length_range]
  · intro i hi
    rw [along_length h] at hi
    rw [valueAt_along h]
    unfold VaaclBase.valueAt
    rw [List.getElem?_map, List.getElem?_range hi]
    rfl
section
variable {P : Program} {w : World} {K : PySem.W.Frag} {mg : Str → Option Value} {base : Heap}
/-! ## further -/
abbrev sFurther : Stmt := top 29
theorem scFurther : FnScope ["values", "step", "k", "j"] ["values", "step", "k"] (defScope sFurther) := ⟨rfl, rfl, rfl, by decide +kernel, rfl, by decide +kernel, by decide +kernel⟩
def spFurther : Sp := fun vs H Q _ => ∃ (a b : Addr) (v d : Values) (n : Int), vs = [.ref a, .ref b, .int n] ∧ IsI H a v ∧ IsI H b d ∧ v.length = d.length ∧ v.length ≤ 4 ∧ Tame d ∧
  ∀ (H' : Hp) (p : Addr), Same H H' → H p = none → IsI H' p (along v d n) → Q (.ref p) H'
theorem ok_further (G : NamesOf mg) {f : Addr} {fd : FuncData} (F : Fun K "further" "further" sFurther f fd) : FnOk P w K mg base CX0 1 f fd ["values", "step", "k"] spFurther := by
  refine F.ok scFurther (fun vs H Q E h => ?_) (fun cdv A outer s H vs Q E hr h => ⟨_, pss_one (ps_ret (pe_lc (own := [("j", 3)]) (g := gName 3) (tt := tYes) (te := (tOp (rI0 fun i j => .int (i + j)) (tOp (rIxL K) (tVar 0) (tVar 3)) (tOp (rI CMul fun i j => .int (i * j)) (tVar 2) (tOp (rIxL K) (tVar 1) (tVar 3))))) rfl scFurther.nd (pi_range1 rfl G.range (pa_cons (pe_callB call_len_seq (by rfl) G.len PySem.boot_len (pa_cons (pv 0) pa_nil)) pa_nil)) (blkOk_by (own := [("j", 3)]) (N := ["values", "step", "k", "j"]) (sc := defScope sFurther) (by decide +kernel)) (fun _ _ _ _ _ => pg_name (i := 3) scFurther.nd rfl (Or.inl rfl)) (fun _ _ _ _ _ => pts_nil) (fun _ _ _ _ _ => (pe_op op_add (pe_ix ix_list (pv 0) (pv 3) (fun _ _ => rfl)) (pe_op op_mul (pv 2) (pe_ix ix_list (pv 1) (pv 3) (fun _ _ => rfl))))))), ?_⟩)
  · obtain ⟨a, b, v, d, n, rfl, _⟩ := h
    rfl
  · obtain ⟨a, b, v, d, n, rfl, ha, hb, hl, h4, tame, k⟩ := h
    rw [along_range hl] at k
    refine ⟨_, rfl, a, _, rfl, .inl (SqL.of ha), _, rfl, by omega, by rw [List.length_map]; omega, fun D hD => ?_⟩
    rw [List.length_map, Int.toNat_natCast]
    have aD : a ≠ D := ne_of_none ha hD
    have bD : b ≠ D := ne_of_none hb hD
    refine lc_range (lo := 0) (n := v.length) (fun i H' => Same H H' ∧ IsI H' D ((List.range i).map fun j => valueAt v j + n * valueAt d j)) ⟨(Same.refl H).new hD, upd_same⟩ ?_ ?_
    · rintro i H' hi ⟨e, hL⟩
      rw [Int.zero_add]
      refine ⟨rfl, _, rfl, _, rfl, a, _, _, _, rfl, rfl, SqL.of (e _ _ ha), atI_nat (valueAt_int hi), _, rfl, _, rfl, _, rfl, b, _, _, _, rfl, rfl, SqL.of (e _ _ hb), atI_nat (valueAt_int (by omega)), _, _, rfl, rfl, (tame.one i).mul, _, _, rfl, rfl, _, hL, ?_, e.put hD, ?_⟩
      · rw [List.length_map, List.length_map, List.length_range]
        exact sizeOk (by omega)
      · unfold IsI
        rw [upd_same, List.range_succ, List.map_append, List.map_append]
        rfl
    · rintro H1 ⟨e1, hL1⟩
      exact k H1 D e1 hD hL1
/-! ## beginnings -/
abbrev sBeginnings : Stmt := top 30
theorem scBeginnings : FnScope ["branches", "pattern", "values", "most", "rows", "time", "good"] ["branches", "pattern", "values", "most"] (defScope sBeginnings) := ⟨rfl, rfl, rfl, by decide +kernel, rfl, by decide +kernel, by decide +kernel⟩
def RowsAt (H0 : Hp) (c : Addr) (H : Hp) (r : Addr) (rows : List Values) : Prop := ∃ ts : List Addr, H r = some (.lst (ts.map V.ref)) ∧ Each (fun t x => (t = c ∨ H0 t = none) ∧ IsI H t x) ts rows
theorem RowsAt.same {H0 H H' : Hp} {c r : Addr} {rows : List Values} (e : Same H H') : RowsAt H0 c H r rows → RowsAt H0 c H' r rows
  | ⟨ts, h, q⟩ => ⟨ts, e _ _ h, q.mono fun _ _ z => ⟨z.1, z.2.same e⟩⟩
def spBeginnings : Sp := fun vs H Q _ => ∃ (a b c : Addr) (n : Nat) (l : LoopT) (p : List Nat) (s : Values), vs = [.ref a, .ref b, .ref c, .int (n : Nat)] ∧ LoopAt H a l ∧ IsI H b (nats p) ∧ IsI H c s ∧ GoodL s.length l ∧ s.length ≤ 4 ∧ (∀ x ∈ p, x < l.length) ∧ n ≤ 100 ∧
  ∀ (H' : Hp) (r : Addr), Same H H' → H r = none → RowsAt H c H' r (s :: begs l p n s) → Q (.ref r) H'
theorem ok_beginnings (G : NamesOf mg) {f1 : Addr} {d1 : FuncData} (DFollow : Def P w K mg base CX0 4 "follow" ["branches", "pattern", "values"] spFollow f1 d1)
    {f : Addr} {fd : FuncData} (F : Fun K "beginnings" "beginnings" sBeginnings f fd) : FnOk P w K mg base CX0 5 f fd ["branches", "pattern", "values", "most"] spBeginnings := by
  refine F.ok scBeginnings (fun vs H Q E h => ?_) (fun cdv A outer s H vs Q E hr h => ⟨_, pss_cons (ps_set (i := 4) scBeginnings.nd rfl (.inl rfl) (pe_lst (pa_cons (pv 2) pa_nil))) (pss_cons (ps_for PassesOwn.never rfl (pi_range1 rfl G.range (pa_cons (pv 3) pa_nil)) (pg_name (i := 5) scBeginnings.nd rfl (.inl rfl)) (pss_cons (ps_asg (pe_call DFollow.ok (hr.mono (by decide)) rfl DFollow.m DFollow.kp DFollow.b .nil pass0 (pa_cons (pv 0) (pa_cons (pv 1) (pa_cons (pv 2) pa_nil)))) (pg_tup rfl (pgs_cons (pg_name (i := 6) scBeginnings.nd rfl (.inl rfl)) (pgs_cons (pg_name (i := 2) scBeginnings.nd rfl (.inl rfl)) pgs_nil)))) (pss_cons (ps_if (pt_not (pt_val (pv 6))) (pss_one (ps_ret (pv 4))) pss_nil) (pss_one (ps_expr (pe_bm PySem.F.plainAttrs_list PySem.F.slot_list_append PySem.F.type_list_append mt_append (pv 4) (pa_cons (pv 2) pa_nil))))))) (pss_one (ps_ret (pv 4)))), ?_⟩)
  · obtain ⟨a, b, c, n, l, p, s, rfl, _⟩ := h
    rfl
  · obtain ⟨a, b, c, n, l, p, s, rfl, ha, hb, hc, ok, h4, hp, hn, k⟩ := h
    refine ⟨_, rfl, by show 1 ≤ sizeLine; decide, fun r hr0 => ?_⟩
    have e0 : Same H (upd H r (.lst [.ref c])) := (Same.refl H).new hr0
    have cr : c ≠ r := ne_of_none hc hr0
    refine ⟨_, rfl, _, rfl, by omega, by omega, ?_⟩
    rw [Int.toNat_natCast]
    refine for_range (lo := 0) (n := n) (fun i σ H' => ∃ (c' : Addr) (v1 v2 : Option V) (x : Values) (done : List Values) (ts : List Addr), σ = [some (.ref a), some (.ref b), some (.ref c'), some (.int (n : Nat)), some (.ref r), v1, v2] ∧ Same H H' ∧ c' ≠ r ∧ (c' = c ∨ H c' = none) ∧ IsI H' c' x ∧ x.length = s.length ∧
        H' r = some (.lst (ts.map V.ref)) ∧ Each (fun t x => t ≠ r ∧ (t = c ∨ H t = none) ∧ IsI H' t x) ts (s :: done) ∧ done.length = i ∧ begs l p n s = done ++ begs l p (n - i) x)
      ⟨c, none, none, s, [], [c], rfl, e0, cr, .inl rfl, e0 _ _ hc, rfl, upd_same, ⟨⟨cr, .inl rfl, e0 _ _ hc⟩, trivial⟩, rfl, by rw [Nat.sub_zero]; rfl⟩ ?_ ?_
    · rintro i σ H' hi ⟨c', v1, v2, x, done, ts, rfl, e, cr', hcc, hc', xl, hL, et, dl, eq⟩
      refine ⟨_, rfl, _, rfl, _, rfl, a, b, c', l, p, x, rfl, ha.same e, hb.same e, hc', by rw [xl]; exact ok, by omega, hp, fun H2 t q e2 nt hq ht hqI => ?_⟩
      have hqr : q ≠ r := by
        rcases hq with rfl | hq
        · exact cr'
        · exact (ne_of_none hL hq).symm
      have hqc : q = c ∨ H q = none := by
        rcases hq with rfl | hq
        · exact hcc
        · exact .inr (e.free hq)
      refine ⟨t, _, rfl, SqT.of ht, rfl, _, _, rfl, _, _, rfl, rfl, _, rfl, _, rfl, ?_⟩
      rw [show n - i = (n - (i + 1)) + 1 by omega] at eq
      cases hf : Vaacle.followed l p x with
      | false =>
        refine tru rfl ⟨_, rfl, k H2 r (e.trans e2) hr0 ⟨ts, e2 _ _ hL, ?_⟩⟩
        have : begs l p ((n - (i + 1)) + 1) x = [] := if_neg (by rw [hf]; exact Bool.false_ne_true)
        rw [eq, this, List.append_nil]
        exact et.mono fun _ _ z => ⟨z.2.1, z.2.2.same e2⟩
      | true =>
        have eb : begs l p ((n - (i + 1)) + 1) x = adv l p x :: begs l p (n - (i + 1)) (adv l p x) := if_pos hf
        rw [hf, if_pos rfl] at hqI
        have tl : ts.length = done.length + 1 := by
          have := et.length
          rw [List.length_cons] at this
          exact this
        have e3 : Same H (upd H2 r (.lst (ts.map V.ref ++ [.ref q]))) := (e.trans e2).put hr0
        have keep : ∀ (t : Addr) (x : Values), t ≠ r → IsI H2 t x → IsI (upd H2 r (.lst (ts.map V.ref ++ [.ref q]))) t x := fun t x h1 h2 => (upd_ne h1).trans h2
        refine fls rfl ⟨_, rfl, .inl ⟨rfl, _, SqL.of (e2 _ _ hL)⟩, _, rfl, r, _, _, rfl, rfl, e2 _ _ hL, by rw [List.length_map]; exact sizeOk (by omega), ?_⟩
        refine ⟨q, _, _, adv l p x, done ++ [adv l p x], ts ++ [q], rfl, e3, hqr, hqc, keep _ _ hqr hqI, ?_, ?_, ?_, by rw [List.length_append, dl]; rfl, by rw [eq, eb, List.append_assoc]; rfl⟩
        · exact adv_length ok p x hp xl
        · rw [upd_same, List.map_append]
          rfl
        · rw [← List.cons_append]
          exact Each.snoc ⟨hqr, hqc, keep _ _ hqr hqI⟩ (et.mono fun _ _ z => ⟨z.1, z.2.1, keep _ _ z.1 (z.2.2.same e2)⟩)
    · rintro σ H' ⟨c', v1, v2, x, done, ts, rfl, e, cr', hcc, hc', xl, hL, et, dl, eq⟩
      refine ⟨_, rfl, k H' r e hr0 ⟨ts, hL, ?_⟩⟩
      rw [eq, Nat.sub_self]
      show Each _ ts (s :: (done ++ []))
      rw [List.append_nil]
      exact et.mono fun _ _ z => ⟨z.2.1, z.2.2⟩
/-! ## first_stop -/
abbrev sFirstStop : Stmt := top 31
theorem scFirstStop : FnScope ["branches", "pattern", "values", "step", "k", "good", "after"] ["branches", "pattern", "values", "step"] (defScope sFirstStop) := ⟨rfl, rfl, rfl, by decide +kernel, rfl, by decide +kernel, by decide +kernel⟩
def spFirstStop : Sp := fun vs H Q _ => ∃ (a b c e : Addr) (l : LoopT) (p : List Nat) (s d : Values), vs = [.ref a, .ref b, .ref c, .ref e] ∧ LoopAt H a l ∧ IsI H b (nats p) ∧ IsI H c s ∧ IsI H e d ∧ GoodL s.length l ∧ (∀ i ∈ p, i < l.length) ∧ p.length ≤ 3 ∧
  d.length = s.length ∧ s.length ≤ 4 ∧ Tame d ∧ ∀ (H' : Hp) (ks : List Int), Same H H' → ks.Pairwise (· < ·) → (∀ k, k ∈ ks ↔ (k ∈ Lp.flipsAll l p s d ∧ 0 < k)) → Q (.int (firstStop l p s d ks)) H'
theorem ok_first_stop {f1 f2 f3 : Addr} {d1 d2 d3 : FuncData} (DFlips : Def P w K mg base CX0 4 "flips" ["branches", "pattern", "values", "step"] spFlips f1 d1)
    (DFollow : Def P w K mg base CX0 4 "follow" ["branches", "pattern", "values"] spFollow f2 d2) (DFurther : Def P w K mg base CX0 1 "further" ["values", "step", "k"] spFurther f3 d3)
    {f : Addr} {fd : FuncData} (F : Fun K "first_stop" "first_stop" sFirstStop f fd) : FnOk P w K mg base CX0 5 f fd ["branches", "pattern", "values", "step"] spFirstStop := by
  refine F.ok scFirstStop (fun vs H Q E h => ?_) (fun cdv A outer s H vs Q E hr h => ⟨_, pss_cons (ps_for PassesOwn.never rfl (pi_list (pe_call DFlips.ok (hr.mono (by decide)) rfl DFlips.m DFlips.kp DFlips.b .nil pass0 (pa_cons (pv 0) (pa_cons (pv 1) (pa_cons (pv 2) (pa_cons (pv 3) pa_nil)))))) (pg_name (i := 4) scFirstStop.nd rfl (.inl rfl)) (pss_cons (ps_asg (pe_call DFollow.ok (hr.mono (by decide)) rfl DFollow.m DFollow.kp DFollow.b .nil pass0 (pa_cons (pv 0) (pa_cons (pv 1) (pa_cons (pe_call DFurther.ok (hr.mono (by decide)) rfl DFurther.m DFurther.kp DFurther.b .nil pass0 (pa_cons (pv 2) (pa_cons (pv 3) (pa_cons (pv 4) pa_nil)))) pa_nil)))) (pg_tup rfl (pgs_cons (pg_name (i := 5) scFirstStop.nd rfl (.inl rfl)) (pgs_cons (pg_name (i := 6) scFirstStop.nd rfl (.inl rfl)) pgs_nil)))) (pss_one (ps_if (pt_not (pt_val (pv 5))) (pss_one (ps_ret (pv 4))) pss_nil)))) (pss_one (ps_ret pe_int)), ?_⟩)
  · obtain ⟨a, b, c, e, l, p, s, d, rfl, _⟩ := h
    rfl
  · obtain ⟨a, b, c, e, l, p, s, d, rfl, ha, hb, hc, hd, ok, hp, hp3, hds, h4, tame, k⟩ := h
    refine ⟨_, rfl, _, rfl, _, rfl, _, rfl, a, b, c, e, l, p, s, d, rfl, ha, hb, hc, hd, ok, hp, hp3, hds, h4, tame, fun H1 r ks e1 nr srt mem few hr1 => ?_⟩
    refine ⟨r, rfl, ⟨_, SqL.of hr1⟩, for_list (K := K) (a := r) (xs := ks.map V.int) (fun i σ H' => (∃ v1 v2 v3 : Option V, σ = [some (.ref a), some (.ref b), some (.ref c), some (.ref e), v1, v2, v3]) ∧ Same H1 H' ∧ (ks.find? fun k => !Vaacle.followed l p (along s d k)) = ((ks.drop i).find? fun k => !Vaacle.followed l p (along s d k)))
      ⟨⟨none, none, none, rfl⟩, Same.refl H1, rfl⟩ (fun i σ H' _ ⟨_, e, _⟩ => SqL.of (e _ _ hr1)) ?_ ?_⟩
    · rintro i y σ H' hi ⟨⟨v1, v2, v3, rfl⟩, e2, eq⟩
      obtain ⟨z, hz, rfl⟩ := map_get hi
      have hdrop : ks.drop i = z :: ks.drop (i + 1) := by
        obtain ⟨h1, h2⟩ := List.getElem?_eq_some_iff.mp hz
        rw [← h2]
        exact List.drop_eq_getElem_cons h1
      rw [hdrop, List.find?_cons] at eq
      have e02 := e1.trans e2
      refine ⟨_, rfl, _, rfl, _, rfl, _, rfl, _, rfl, c, e, s, d, z, rfl, hc.same e02, hd.same e02, hds.symm, h4, tame, fun H3 q e3 nq hq => ?_⟩
      have al := along_length hds.symm z
      refine ⟨a, b, q, l, p, _, rfl, ha.same (e02.trans e3), hb.same (e02.trans e3), hq, by rw [al]; exact ok, by rw [al]; exact h4, hp, fun H4 t q4 e4 nt hq4 ht hqI => ?_⟩
      refine ⟨t, _, rfl, SqT.of ht, rfl, _, _, rfl, _, _, rfl, rfl, _, rfl, _, rfl, ?_⟩
      cases hf : Vaacle.followed l p (along s d z) with
      | false =>
        refine tru rfl ⟨_, rfl, ?_⟩
        rw [hf, Bool.not_false] at eq
        have := k H4 ks ((e02.trans e3).trans e4) srt mem
        unfold firstStop at this
        rw [eq] at this
        exact this
      | true =>
        refine fls rfl ⟨⟨_, _, _, rfl⟩, (e2.trans e3).trans e4, ?_⟩
        rw [hf, Bool.not_true] at eq
        exact eq
    · rintro σ H' ⟨⟨v1, v2, v3, rfl⟩, e2, eq⟩
      rw [List.length_map, List.drop_length] at eq
      have := k H' ks (e1.trans e2) srt mem
      unfold firstStop at this
      rw [eq] at this
      exact this
end
end Lp
namespace Lp
open PySem PySem.Spec PyProof.Rows L2
open VaaclBase (Values)
open Vaacle (timesOf followed)
/-! ## What the period gives -/
theorem period_says {n : Nat} {l : LoopT} (ok : GoodL n l) (h4 : n ≤ 4) {p : List Nat} (hp : ∀ x ∈ p, x < l.length) :
    ∃ a : Nat, periodOf l n p = (a : Int) ∧ 1 ≤ a ∧ a ≤ 48 ∧ Closes (patM l n p) a ∧ (hasRem l = true → Twelve (moreList (patM l n p) a)) := by
  have okm := patM_ok (n := n) ok.ok hp
  obtain ⟨a1, a4, c⟩ := around_closes okm h4
  unfold periodOf
  generalize aroundOf (srcs (patM l n p)) = A at a1 a4 c
  cases hr : hasRem l with
  | true =>
    refine ⟨12 * A.toNat, ?_, by omega, by omega, c.times 12, fun _ => c.twelve 12 ⟨1, rfl⟩⟩
    rw [if_pos rfl]
    omega
  | false =>
    refine ⟨A.toNat, ?_, by omega, by omega, c, fun h => by cases h⟩
    rw [if_neg Bool.false_ne_true]
    omega
theorem followed_near {l : LoopT} : ∀ {p : List Nat} {s : Values}, p ≠ [] → followed l p s = true → VaaclBase.isBeyond (adv l p s) = false
  | [], _, h, _ => absurd rfl h
  | [b], s, _, h => ((followed_cons l b [] s).mp h).1.2
  | b :: c :: p, s, _, h => followed_near (p := c :: p) (fun z => by cases z) ((followed_cons l b (c :: p) s).mp h).2
theorem near_says {s : Values} (h : VaaclBase.isBeyond s = false) (i : Nat) : -1000000000000 ≤ VaaclBase.valueAt s i ∧ VaaclBase.valueAt s i ≤ 1000000000000 := by
  by_cases hi : i < s.length
  · have := (isBeyond_iff s).mp h i hi
    unfold VaaclBase.NUMBER at this
    omega
  · rw [show VaaclBase.valueAt s i = 0 from valueAt_ge (by omega)]
    omega
/-- all that stop_time leans on -/
structure Cyc (n : Nat) (l : LoopT) (p : List Nat) (s : Values) (a : Nat) : Prop where
  ok : GoodL n l
  h4 : n ≤ 4
  hs : s.length = n
  hp : ∀ x ∈ p, x < l.length
  hp3 : p.length ≤ 3
  a1 : 1 ≤ a
  a48 : a ≤ 48
  cl : Closes (patM l n p) a
  tw : hasRem l = true → Twelve (moreList (patM l n p) a)
  tame : Tame (moreList (patM l n p) a)
  fol : ∀ k, k < 4 + a → followed l p (itr (patM l n p) k s) = true
theorem Cyc.len {n : Nat} {l : LoopT} {p : List Nat} {s : Values} {a : Nat} (c : Cyc n l p s a) (k : Nat) : (itr (patM l n p) k s).length = n := by
  have okm := patM_ok (n := n) c.ok.ok c.hp
  rw [itr_length (by rw [c.hs, okm.1]), okm.1]
theorem Cyc.mlen {n : Nat} {l : LoopT} {p : List Nat} {s : Values} {a : Nat} (c : Cyc n l p s a) : (moreList (patM l n p) a).length = n := by
  rw [moreList_length, (patM_ok (n := n) c.ok.ok c.hp).1]
theorem Cyc.along {n : Nat} {l : LoopT} {p : List Nat} {s : Values} {a : Nat} (c : Cyc n l p s a) (x q : Nat) : itr (patM l n p) (4 + x + q * a) s = Lp.along (itr (patM l n p) (4 + x) s) (moreList (patM l n p) a) q :=
  c.cl.along (by rw [c.hs, (patM_ok (n := n) c.ok.ok c.hp).1]) x q
theorem Cyc.times {n : Nat} {l : LoopT} {p : List Nat} {s : Values} {a : Nat} (c : Cyc n l p s a) : FirstNot (fun k => followed l p (itr (patM l n p) k s) = true) (timesOf l p s) := timesOf_first c.ok.ok c.h4 c.hp c.hs
section
variable {P : Program} {w : World} {K : PySem.W.Frag} {mg : Str → Option Value} {base : Heap}
/-! ## stop_time -/
abbrev sStopTime : Stmt := top 32
theorem scStopTime : FnScope ["branches", "pattern", "rows", "step", "around", "best", "start", "k"] ["branches", "pattern", "rows", "step", "around"] (defScope sStopTime) := ⟨rfl, rfl, rfl, by decide +kernel, rfl, by decide +kernel, by decide +kernel⟩
def spStopTime : Sp := fun vs H Q _ => ∃ (a b r d : Addr) (n : Nat) (l : LoopT) (p : List Nat) (s : Values) (ar : Nat) (rows : List Values), vs = [.ref a, .ref b, .ref r, .ref d, .int (ar : Nat)] ∧ LoopAt H a l ∧ IsI H b (nats p) ∧
  (∃ ts : List Addr, H r = some (.lst (ts.map V.ref)) ∧ Each (IsI H) ts rows) ∧ (∀ i, i ≤ 4 + ar → rows[i]? = some (itr (patM l n p) i s)) ∧ IsI H d (moreList (patM l n p) ar) ∧ Cyc n l p s ar ∧
  ∀ H' : Hp, Same H H' → Q (.int (VaaclBase.orNone (timesOf l p s))) H'
theorem ok_stop_time (G : NamesOf mg) {f1 : Addr} {d1 : FuncData} (DFirstStop : Def P w K mg base CX0 5 "first_stop" ["branches", "pattern", "values", "step"] spFirstStop f1 d1)
    {f : Addr} {fd : FuncData} (F : Fun K "stop_time" "stop_time" sStopTime f fd) : FnOk P w K mg base CX0 6 f fd ["branches", "pattern", "rows", "step", "around"] spStopTime := by
  refine F.ok scStopTime (fun vs H Q E h => ?_) (fun cdv A outer s H vs Q E hr h => ⟨_, pss_cons (ps_set (i := 5) scStopTime.nd rfl (.inl rfl) (pe_un un_neg pe_int)) (pss_cons (ps_for PassesOwn.never rfl (pi_range2 rfl G.range (pa_cons (pe_gint rfl G.SETTLED) (pa_cons (pe_op op_add (pe_gint rfl G.SETTLED) (pv 4)) pa_nil))) (pg_name (i := 6) scStopTime.nd rfl (.inl rfl)) (pss_cons (ps_set (i := 7) scStopTime.nd rfl (.inl rfl) (pe_call DFirstStop.ok (hr.mono (by decide)) rfl DFirstStop.m DFirstStop.kp DFirstStop.b .nil pass0 (pa_cons (pv 0) (pa_cons (pv 1) (pa_cons (pe_ix ix_list (pv 2) (pv 6) (fun _ _ => rfl)) (pa_cons (pv 3) pa_nil)))))) (pss_one (ps_if (PW.pt (pw_and (pt_cmp (pc_gt (pv 7) pe_int)) (pw_and1 (PW.pt (pw_or (pt_cmp (pc_lt (pv 5) pe_int)) (pw_or1 (pt_cmp (pc_lt (pe_op op_add (pv 6) (pe_op op_mul (pv 7) (pv 4))) (pv 5))))))))) (pss_one (ps_set (i := 5) scStopTime.nd rfl (.inl rfl) (pe_op op_add (pv 6) (pe_op op_mul (pv 7) (pv 4))))) pss_nil)))) (pss_one (ps_ret (pv 5)))), ?_⟩)
  · obtain ⟨a, b, r, d, n, l, p, s, ar, rows, rfl, _⟩ := h
    rfl
  · obtain ⟨a, b, r, d, n, l, p, s, ar, rows, rfl, ha, hb, ⟨ts, hr1, et⟩, hrow, hd, cyc, k⟩ := h
    have a48 := cyc.a48
    have a1 := cyc.a1
    refine ⟨_, rfl, _, rfl, _, _, rfl, rfl, _, _, rfl, ⟨by decide, by decide, by omega, by omega⟩, ?_⟩
    rw [show ((4 : Int) + (ar : Nat) - 4).toNat = ar by omega]
    refine for_range (lo := 4) (n := ar) (fun i σ H' => ∃ (o : Option Nat) (v1 v2 : Option V), σ = [some (.ref a), some (.ref b), some (.ref r), some (.ref d), some (.int (ar : Nat)), some (.int (VaaclBase.orNone o)), v1, v2] ∧ Same H H' ∧
        FirstNot (fun k => 4 ≤ k ∧ (k - 4) % ar < i → followed l p (itr (patM l n p) k s) = true) o)
      ⟨none, none, none, rfl, Same.refl H, fun q hq => absurd hq.2 (Nat.not_lt_zero _)⟩ ?_ ?_
    · rintro i σ H' hi ⟨o, v1, v2, rfl, e, fo⟩
      have hk4 : (4 : Int) + (i : Nat) = ((4 + i : Nat) : Int) := by omega
      rw [hk4]
      obtain ⟨t, ht, hT⟩ := et.back (hrow (4 + i) (by omega))
      have htr : (ts.map V.ref)[4 + i]? = some (.ref t) := by
        rw [List.getElem?_map, ht]
        rfl
      have ln := cyc.len (4 + i)
      refine ⟨_, rfl, _, rfl, _, rfl, _, rfl, r, _, _, _, rfl, rfl, SqL.of (e _ _ hr1), atI_nat htr, _, rfl, a, b, t, d, l, p, _, moreList (patM l n p) ar, rfl, ha.same e, hb.same e, hT.same e, hd.same e, by rw [ln]; exact cyc.ok, cyc.hp, cyc.hp3,
        by rw [ln, cyc.mlen], by rw [ln]; exact cyc.h4, cyc.tame, fun H2 ks e2 srt mem => ?_⟩
      have h0 : followed l p (Lp.along (itr (patM l n p) (4 + i) s) (moreList (patM l n p) ar) 0) = true := by
        rw [along_zero (by rw [ln, cyc.mlen])]
        exact cyc.fol (4 + i) (by omega)
      obtain ⟨o', fo', hfs, hne⟩ := firstStop_first cyc.ok.ok cyc.hp (by rw [ln, cyc.mlen]) cyc.tw srt mem h0
      have fo2 : FirstNot (fun k => 4 ≤ k ∧ (k - 4) % ar = i → followed l p (itr (patM l n p) k s) = true) (o'.map fun q => 4 + i + q * ar) :=
        FirstNot.rowA (P := fun k => followed l p (itr (patM l n p) k s) = true) (fo'.congr fun q => by rw [cyc.along]) hi
      have fo3 : FirstNot (fun k => 4 ≤ k ∧ (k - 4) % ar < i + 1 → followed l p (itr (patM l n p) k s) = true) (Vaaclc.lesser o (o'.map fun q => 4 + i + q * ar)) :=
        (fo.both fo2).congr fun q => ⟨fun ⟨x, y⟩ z => by
          rcases Nat.lt_or_ge ((q - 4) % ar) i with c | c
          · exact x ⟨z.1, c⟩
          · exact y ⟨z.1, by omega⟩, fun z => ⟨fun x => z ⟨x.1, by omega⟩, fun x => z ⟨x.1, by omega⟩⟩⟩
      rw [hfs]
      have turn := bestTurn_lesser (a := ar) (r := i) o o' hne
      unfold bestTurn at turn
      have yes : 0 < zeroOr o' → (VaaclBase.orNone o < 0 ∨ ((4 + i : Nat) : Int) + zeroOr o' * (ar : Int) < VaaclBase.orNone o) → ((4 + i : Nat) : Int) + zeroOr o' * (ar : Int) = VaaclBase.orNone (Vaaclc.lesser o (o'.map fun q => 4 + i + q * ar)) := fun x y => by
        rw [if_pos ⟨x, y⟩] at turn
        exact turn
      have no : ¬ (0 < zeroOr o' ∧ (VaaclBase.orNone o < 0 ∨ ((4 + i : Nat) : Int) + zeroOr o' * (ar : Int) < VaaclBase.orNone o)) → VaaclBase.orNone o = VaaclBase.orNone (Vaaclc.lesser o (o'.map fun q => 4 + i + q * ar)) := fun x => by
        rw [if_neg x] at turn
        exact turn
      have sm : CMul (zeroOr o') ((ar : Nat) : Int) := .inr ⟨by omega, by omega⟩
      refine ⟨_, rfl, _, _, rfl, rfl, _, rfl, ?_⟩
      by_cases c1 : zeroOr o' > 0
      · refine tru (decide_eq_true c1) ⟨_, rfl, _, _, rfl, rfl, _, rfl, ?_⟩
        by_cases c2 : VaaclBase.orNone o < 0
        · refine tru (decide_eq_true c2) (tru rfl ?_)
          refine ⟨_, rfl, _, rfl, _, rfl, _, _, rfl, rfl, sm, _, _, rfl, rfl, _, some (.int ((4 + i : Nat) : Int)), some (.int (zeroOr o')), ?_, e.trans e2, fo3⟩
          rw [← yes c1 (.inl c2)]
          rfl
        · refine fls (decide_eq_false c2) ?_
          refine ⟨_, rfl, _, rfl, _, rfl, _, _, rfl, rfl, sm, _, _, rfl, rfl, _, rfl, _, _, rfl, rfl, _, rfl, ?_⟩
          by_cases c3 : ((4 + i : Nat) : Int) + zeroOr o' * (ar : Int) < VaaclBase.orNone o
          · refine tru (decide_eq_true c3) ?_
            refine ⟨_, rfl, _, rfl, _, rfl, _, _, rfl, rfl, sm, _, _, rfl, rfl, _, some (.int ((4 + i : Nat) : Int)), some (.int (zeroOr o')), ?_, e.trans e2, fo3⟩
            rw [← yes c1 (.inr c3)]
            rfl
          · refine fls (decide_eq_false c3) ⟨_, some (.int ((4 + i : Nat) : Int)), some (.int (zeroOr o')), ?_, e.trans e2, fo3⟩
            rw [← no (fun z => z.2.elim c2 c3)]
            rfl
      · refine fls (decide_eq_false c1) (fls rfl ⟨_, some (.int ((4 + i : Nat) : Int)), some (.int (zeroOr o')), ?_, e.trans e2, fo3⟩)
        rw [← no (fun z => c1 z.1)]
        rfl
    · rintro σ H' ⟨o, v1, v2, rfl, e, fo⟩
      have fo2 : FirstNot (fun k => followed l p (itr (patM l n p) k s) = true) o := by
        refine FirstNot.congr (P := fun k => 4 ≤ k ∧ (k - 4) % ar < ar → followed l p (itr (patM l n p) k s) = true) (R := fun k => followed l p (itr (patM l n p) k s) = true) (fun q => ⟨fun x => ?_, fun x _ => x⟩) fo
        by_cases c : 4 ≤ q
        · exact x ⟨c, Nat.mod_lt _ (by omega)⟩
        · exact cyc.fol q (by omega)
      have eo : o = timesOf l p s := FirstNot.unique fo2 cyc.times
      rw [eo]
      exact ⟨_, rfl, k H' e⟩
/-! ## often -/
abbrev sOften : Stmt := top 33
theorem scOften : FnScope ["branches", "pattern", "values", "around", "most", "rows", "times", "step", "start", "j"] ["branches", "pattern", "values"] (defScope sOften) := ⟨rfl, rfl, rfl, by decide +kernel, rfl, by decide +kernel, by decide +kernel⟩
/-- the values behind so many times -/
def oftenV (l : LoopT) (p : List Nat) (s : Values) : Values := match timesOf l p s with
  | none => s
  | some k => itr (patM l s.length p) k s
def spOften : Sp := fun vs H Q _ => ∃ (a b c : Addr) (l : LoopT) (p : List Nat) (s : Values), vs = [.ref a, .ref b, .ref c] ∧ LoopAt H a l ∧ IsI H b (nats p) ∧ IsI H c s ∧ GoodL s.length l ∧ s.length ≤ 4 ∧ (∀ x ∈ p, x < l.length) ∧ p.length ≤ 3 ∧ p ≠ [] ∧
  ∀ (H' : Hp) (t q : Addr), Same H H' → H t = none → H' t = some (.tup [.int (VaaclBase.orNone (timesOf l p s)), .ref q]) → (q = c ∨ H q = none) → IsI H' q (oftenV l p s) → Q (.ref t) H'
theorem ok_often (G : NamesOf mg) {f1 f2 f3 f4 : Addr} {d1 d2 d3 d4 : FuncData} (DPeriod : Def P w K mg base CX0 2 "period" ["branches", "pattern"] spPeriod f1 d1)
    (DBeginnings : Def P w K mg base CX0 5 "beginnings" ["branches", "pattern", "values", "most"] spBeginnings f2 d2) (DStopTime : Def P w K mg base CX0 6 "stop_time" ["branches", "pattern", "rows", "step", "around"] spStopTime f3 d3)
    (DFurther : Def P w K mg base CX0 1 "further" ["values", "step", "k"] spFurther f4 d4)
    {f : Addr} {fd : FuncData} (F : Fun K "often" "often" sOften f fd) : FnOk P w K mg base CX0 7 f fd ["branches", "pattern", "values"] spOften := by
  refine F.ok scOften (fun vs H Q E h => ?_) (fun cdv A outer s H vs Q E hr h => ⟨_, pss_cons (ps_set (i := 3) scOften.nd rfl (.inl rfl) (pe_call DPeriod.ok (hr.mono (by decide)) rfl DPeriod.m DPeriod.kp DPeriod.b .nil pass0 (pa_cons (pv 0) (pa_cons (pv 1) pa_nil)))) (pss_cons (ps_set (i := 4) scOften.nd rfl (.inr rfl) (pe_op op_add (pe_gint rfl G.SETTLED) (pv 3))) (pss_cons (ps_set (i := 5) scOften.nd rfl (.inr rfl) (pe_call DBeginnings.ok (hr.mono (by decide)) rfl DBeginnings.m DBeginnings.kp DBeginnings.b .nil pass0 (pa_cons (pv 0) (pa_cons (pv 1) (pa_cons (pv 2) (pa_cons (pv 4) pa_nil)))))) (pss_cons (ps_set (i := 6) scOften.nd rfl (.inl rfl) (pe_op op_sub (pe_callB call_len_seq (by rfl) G.len PySem.boot_len (pa_cons (pv 5) pa_nil)) pe_int)) (pss_cons (ps_if (pt_cmp (pc_lt (pv 6) (pv 4))) (pss_one (ps_ret (pe_tup (pa_cons (pv 6) (pa_cons (pe_ix ix_list (pv 5) (pv 6) (fun _ _ => rfl)) pa_nil))))) pss_nil) (pss_cons (ps_setLc (i := 7) (own := [("j", 9)]) (g := gName 9) (tt := tYes) (te := (tOp (rI0 fun i j => .int (i - j)) (tOp (rIxL K) (tOp (rIxL K) (tVar 5) (tVar 4)) (tVar 9)) (tOp (rIxL K) (tOp (rIxL K) (tVar 5) (tC (.int 4))) (tVar 9)))) rfl scOften.nd rfl rfl (sw_true rfl rfl rfl (by decide +kernel)) (pi_range1 rfl G.range (pa_cons (pe_callB call_len_seq (by rfl) G.len PySem.boot_len (pa_cons (pv 2) pa_nil)) pa_nil)) (blkOk_by (own := [("j", 9)]) (N := ["branches", "pattern", "values", "around", "most", "rows", "times", "step", "start", "j"]) (sc := defScope sOften) (by decide +kernel)) (fun _ _ _ _ _ => pg_name (i := 9) scOften.nd rfl (Or.inl rfl)) (fun _ _ _ _ _ => pts_nil) (fun _ _ _ _ _ => (pe_op op_sub (pe_ix ix_list (pe_ix ix_list (pv 5) (pv 4) (fun _ _ => rfl)) (pv 9) (fun _ _ => rfl)) (pe_ix ix_list (pe_ix ix_list (pv 5) (pe_gint rfl G.SETTLED) (fun _ _ => rfl)) (pv 9) (fun _ _ => rfl))))) (pss_cons (ps_set (i := 6) scOften.nd rfl (.inl rfl) (pe_call DStopTime.ok (hr.mono (by decide)) rfl DStopTime.m DStopTime.kp DStopTime.b .nil pass0 (pa_cons (pv 0) (pa_cons (pv 1) (pa_cons (pv 5) (pa_cons (pv 7) (pa_cons (pv 3) pa_nil))))))) (pss_cons (ps_if (pt_cmp (pc_lt (pv 6) pe_int)) (pss_one (ps_ret (pe_tup (pa_cons (pe_un un_neg pe_int) (pa_cons (pv 2) pa_nil))))) pss_nil) (pss_cons (ps_set (i := 8) scOften.nd rfl (.inl rfl) (pe_op op_add (pe_gint rfl G.SETTLED) (pe_op op_modN (pe_op op_sub (pv 6) (pe_gint rfl G.SETTLED)) (pv 3)))) (pss_one (ps_ret (pe_tup (pa_cons (pv 6) (pa_cons (pe_call DFurther.ok (hr.mono (by decide)) rfl DFurther.m DFurther.kp DFurther.b .nil pass0 (pa_cons (pe_ix ix_list (pv 5) (pv 8) (fun _ _ => rfl)) (pa_cons (pv 7) (pa_cons (pe_op op_fdivW (pe_op op_sub (pv 6) (pv 8)) (pv 3)) pa_nil)))) pa_nil))))))))))))), ?_⟩)
  · obtain ⟨a, b, c, l, p, s, rfl, _⟩ := h
    rfl
  · obtain ⟨a, b, c, l, p, s, rfl, ha, hb, hc, ok, h4, hp, hp3, hne, k⟩ := h
    obtain ⟨ar, pe, a1, a48, cl, tw⟩ := period_says ok h4 hp
    obtain ⟨g1, g2, g3, g4⟩ := begs_says ok.ok hp (4 + ar) s rfl
    have tf := timesOf_first ok.ok h4 hp (rfl : s.length = s.length)
    unfold oftenV at k
    generalize hn : s.length = n at ok h4 pe cl tw g1 g2 g3 g4 tf k
    refine ⟨_, rfl, _, rfl, a, b, n, l, p, rfl, ha, hb, ok, h4, hp, fun H1 e1 => ?_⟩
    rw [pe]
    refine ⟨_, rfl, _, _, rfl, rfl, ?_⟩
    dsimp only
    rw [show (4 : Int) + (ar : Nat) = ((4 + ar : Nat) : Int) by omega]
    refine ⟨_, rfl, _, rfl, _, rfl, _, rfl, a, b, c, 4 + ar, l, p, s, rfl, ha.same e1, hb.same e1, hc.same e1, by rw [hn]; exact ok, by omega, hp, by omega, fun H2 r e2 nr ⟨ts, hr2, et⟩ => ?_⟩
    have e02 := e1.trans e2
    have tl : (ts.map V.ref).length = (begs l p (4 + ar) s).length + 1 := by
      have := et.length
      rw [List.length_cons] at this
      rw [List.length_map]
      exact this
    refine ⟨_, rfl, r, _, rfl, .inl (SqL.of hr2), _, _, rfl, rfl, ?_⟩
    dsimp only
    rw [tl, show (((begs l p (4 + ar) s).length + 1 : Nat) : Int) - 1 = (((begs l p (4 + ar) s).length : Nat) : Int) by omega]
    have getRow : ∀ i, i ≤ (begs l p (4 + ar) s).length → ∃ t, (ts.map V.ref)[i]? = some (.ref t) ∧ (t = c ∨ H1 t = none) ∧ IsI H2 t (itr (patM l n p) i s) := fun i hi => by
      obtain ⟨t, ht, hT⟩ := et.back (g2 i hi)
      exact ⟨t, by rw [List.getElem?_map, ht]; rfl, hT⟩
    refine ⟨_, rfl, _, rfl, _, _, rfl, rfl, _, rfl, ?_⟩
    by_cases cm : (begs l p (4 + ar) s).length < 4 + ar
    · -- not as often as most
      have et0 : timesOf l p s = some (begs l p (4 + ar) s).length := FirstNot.unique (a := timesOf l p s) tf ⟨g4 cm, g3⟩
      obtain ⟨t, ht, tc, hT⟩ := getRow _ (Nat.le_refl _)
      refine tru (decide_eq_true (by omega)) ⟨_, rfl, _, rfl, _, rfl, r, _, _, _, rfl, rfl, SqL.of hr2, atI_nat ht, by show 2 ≤ sizeLine; decide, fun q hq => ?_⟩
      rw [et0] at k
      exact k _ q t (e02.new hq) (e02.free hq) upd_same (tc.imp id fun z => e1.free z) ((upd_ne (ne_of_none hT hq)).trans hT)
    · have cl2 : (begs l p (4 + ar) s).length = 4 + ar := by omega
      rw [cl2] at getRow g3 ⊢
      refine fls (decide_eq_false (by omega)) ?_
      have okm := patM_ok (n := n) ok.ok hp
      have hsm : s.length = (patM l n p).length := by rw [hn, okm.1]
      have near : ∀ j, j < 4 + ar → VaaclBase.isBeyond (itr (patM l n p) (j + 1) s) = false := fun j hj => by
        have := followed_near hne (g3 j hj)
        rw [adv_itr l (n := n) p (by rw [itr_length hsm, okm.1]), ← itr_succ] at this
        exact this
      have diff : ∀ i, i < n → VaaclBase.valueAt (itr (patM l n p) (4 + ar) s) i - VaaclBase.valueAt (itr (patM l n p) 4 s) i = more (patM l n p) ar i := fun i hi => by
        have := cl.again (by rw [okm.1]; exact hi) s 0 (i := i)
        rw [Nat.add_zero] at this
        omega
      have tame : Tame (moreList (patM l n p) ar) := fun i => by
        by_cases hi : i < n
        · have h1 := near_says (near (3 + ar) (by omega)) i
          have h2 := near_says (near 3 (by omega)) i
          rw [show 3 + ar + 1 = 4 + ar by omega] at h1
          rw [show 3 + 1 = 4 from rfl] at h2
          rw [valueAt_moreList (by rw [okm.1]; exact hi), ← diff i hi]
          omega
        · rw [valueAt_ge (by rw [moreList_length, okm.1]; omega)]
          omega
      have cyc : Cyc n l p s ar := ⟨ok, h4, hn, hp, hp3, a1, a48, cl, tw, tame, g3⟩
      obtain ⟨tm, htm, _, hTm⟩ := getRow (4 + ar) (Nat.le_refl _)
      obtain ⟨t4, ht4, _, hT4⟩ := getRow 4 (by omega)
      refine ⟨_, rfl, c, _, rfl, .inl (SqL.of (e02 _ _ hc)), _, rfl, by omega, by rw [List.length_map]; omega, fun D hD => ?_⟩
      rw [List.length_map, hn, Int.toNat_natCast]
      refine lc_range (lo := 0) (n := n) (fun i H' => Same H2 H' ∧ IsI H' D ((List.range i).map (more (patM l n p) ar))) ⟨(Same.refl H2).new hD, upd_same⟩ ?_ ?_
      · rintro i H' hi ⟨e, hL⟩
        rw [Int.zero_add]
        have v1 : ((itr (patM l n p) (4 + ar) s).map V.int)[i]? = some (.int (VaaclBase.valueAt (itr (patM l n p) (4 + ar) s) i)) := valueAt_int (by rw [itr_length hsm, okm.1]; exact hi)
        have v2 : ((itr (patM l n p) 4 s).map V.int)[i]? = some (.int (VaaclBase.valueAt (itr (patM l n p) 4 s) i)) := valueAt_int (by rw [itr_length hsm, okm.1]; exact hi)
        refine ⟨rfl, _, rfl, _, rfl, r, _, _, _, rfl, rfl, SqL.of (e _ _ hr2), atI_nat htm, _, rfl, tm, _, _, _, rfl, rfl, SqL.of (e _ _ hTm), atI_nat v1, _, rfl, r, _, _, _, rfl, rfl, SqL.of (e _ _ hr2), atI_nat (j := 4) ht4, _, rfl, t4, _, _, _, rfl, rfl, SqL.of (e _ _ hT4), atI_nat v2, _, _, rfl, rfl, _, hL, ?_, e.put hD, ?_⟩
        · rw [List.length_map, List.length_map, List.length_range]
          exact sizeOk (by omega)
        · unfold IsI
          rw [upd_same]
          dsimp only
          rw [diff i hi, List.range_succ, List.map_append, List.map_append]
          rfl
      · rintro H3 ⟨e3, hL3⟩
        have hL3' : IsI H3 D (moreList (patM l n p) ar) := by
          unfold moreList
          rw [okm.1]
          exact hL3
        have e03 := e02.trans e3
        refine ⟨_, rfl, _, rfl, _, rfl, _, rfl, _, rfl, a, b, r, D, n, l, p, s, ar, (s :: begs l p (4 + ar) s), rfl, ha.same e03, hb.same e03, ⟨ts, e3 _ _ hr2, et.mono fun _ _ z => z.2.same e3⟩, fun i hi => g2 i (by omega), hL3', cyc, fun H4 e4 => ?_⟩
        have e04 := e03.trans e4
        refine ⟨_, rfl, _, _, rfl, rfl, _, rfl, ?_⟩
        cases htim : timesOf l p s with
        | none =>
          rw [htim] at k
          refine tru rfl ⟨_, rfl, _, rfl, by show 2 ≤ sizeLine; decide, fun q hq => ?_⟩
          exact k _ q c (e04.new hq) (e04.free hq) upd_same (.inl rfl) ((upd_ne (ne_of_none (e04 _ _ hc) hq)).trans (e04 _ _ hc))
        | some m =>
          rw [htim] at k
          have tf2 := cyc.times
          rw [htim] at tf2
          have hm : 4 + ar ≤ m := by
            apply Classical.byContradiction
            intro c0
            exact tf2.1 (g3 m (by omega))
          refine fls (decide_eq_false (show ¬ ((m : Nat) : Int) < 0 by omega)) ?_
          have hmod : (((m : Nat) : Int) - 4).fmod ((ar : Nat) : Int) = (((m - 4) % ar : Nat) : Int) := by
            rw [Int.fmod_eq_emod_of_nonneg _ (by omega), show ((m : Nat) : Int) - 4 = ((m - 4 : Nat) : Int) by omega]
            rfl
          have hlt : (m - 4) % ar < ar := Nat.mod_lt _ (by omega)
          refine ⟨_, rfl, _, _, rfl, rfl, _, rfl, _, _, rfl, rfl, by omega, _, _, rfl, rfl, ?_⟩
          dsimp only
          rw [show VaaclBase.orNone (some m) = ((m : Nat) : Int) from rfl, hmod, show (4 : Int) + (((m - 4) % ar : Nat) : Int) = ((4 + (m - 4) % ar : Nat) : Int) by omega]
          obtain ⟨tx, htx, _, hTx⟩ := getRow (4 + (m - 4) % ar) (by omega)
          have hdiv : (((m : Nat) : Int) - ((4 + (m - 4) % ar : Nat) : Int)) / ((ar : Nat) : Int) = (((m - 4) / ar : Nat) : Int) := by
            have dm := Nat.div_add_mod (m - 4) ar
            rw [show ((m : Nat) : Int) - ((4 + (m - 4) % ar : Nat) : Int) = ((ar * ((m - 4) / ar) : Nat) : Int) by omega, Int.natCast_mul, Int.mul_ediv_cancel_left _ (by omega)]
          refine ⟨_, rfl, _, rfl, _, rfl, r, _, _, _, rfl, rfl, SqL.of (e4 _ _ (e3 _ _ hr2)), atI_nat htx, _, rfl, _, rfl, _, rfl, _, _, rfl, rfl, _, rfl, _, _, rfl, rfl, SmallI.div (by unfold SmallI; omega) (by omega), ?_⟩
          dsimp only
          rw [hdiv]
          refine ⟨tx, D, _, _, _, rfl, e4 _ _ (e3 _ _ hTx), hL3'.same e4, by rw [cyc.len, cyc.mlen], by rw [cyc.len]; exact h4, tame, fun H5 q e5 nq hq => ?_⟩
          refine ⟨by show 2 ≤ sizeLine; decide, fun t ht => ?_⟩
          refine k _ t q ((e04.trans e5).new ht) ((e04.trans e5).free ht) upd_same (.inr (e04.free nq)) ?_
          have : itr (patM l n p) m s = along (itr (patM l n p) (4 + (m - 4) % ar) s) (moreList (patM l n p) ar) (((m - 4) / ar : Nat) : Int) := by
            rw [← cyc.along]
            congr 1
            have dm := Nat.div_add_mod (m - 4) ar
            rw [Nat.mul_comm] at dm
            omega
          show IsI _ q (itr (patM l n p) m s)
          rw [this]
          exact (upd_ne (ne_of_none hq ht)).trans hq
end
end Lp
namespace Lp
open PySem PySem.Spec PyProof.Rows L2
open VaaclBase (Values)
open Vaacle (timesOf followed Leap Leapt leapLoop patternAt moveOf howTold)
/-- one leap: how it comes out, its pattern, how often, the values then -/
def oneLeap (l : LoopT) (s : Values) (x : Nat) : Int × List Nat × Option Nat × Values := match timesOf l (patternAt l s) s with
  | none => (2, patternAt l s, none, s)
  | some 0 => (if VaaclBase.isBeyond (VaaclBase.moved (moveOf l x) s) then 1 else 0, [x], some 1, VaaclBase.moved (moveOf l x) s)
  | some (k + 1) => (0, patternAt l s, some (k + 1), itr (patM l s.length (patternAt l s)) (k + 1) s)
section
variable {P : Program} {w : World} {K : PySem.W.Frag} {mg : Str → Option Value} {base : Heap}
/-! ## one_leap -/
abbrev sOneLeap : Stmt := top 37
theorem scOneLeap : FnScope ["branches", "values", "pattern", "times", "after"] ["branches", "values"] (defScope sOneLeap) := ⟨rfl, rfl, rfl, by decide +kernel, rfl, by decide +kernel, by decide +kernel⟩
def spOneLeap : Sp := fun vs H Q _ => ∃ (a b : Addr) (l : LoopT) (s : Values) (x : Nat), vs = [.ref a, .ref b] ∧ LoopAt H a l ∧ IsI H b s ∧ GoodL s.length l ∧ s.length ≤ 4 ∧ VaaclBase.chosen l s = some x ∧
  ∀ (H' : Hp) (t pa q : Addr), Same H H' → H t = none → H pa = none → (q = b ∨ H q = none) → H' t = some (.tup [.int (oneLeap l s x).1, .ref pa, .int (VaaclBase.orNone (oneLeap l s x).2.2.1), .ref q]) →
    IsI H' pa (nats (oneLeap l s x).2.1) → IsI H' q (oneLeap l s x).2.2.2 → Q (.ref t) H'
theorem ok_one_leap (G : NamesOf mg) {f1 f2 f3 f4 : Addr} {d1 d2 d3 d4 : FuncData} (DPatternAt : Def P w K mg base CX0 5 "pattern_at" ["branches", "values"] spPatternAt f1 d1)
    (DOften : Def P w K mg base CX0 7 "often" ["branches", "pattern", "values"] spOften f2 d2) (DBranchMoved : Def P w K mg base CX0 2 "branch_moved" ["branches", "at", "values"] spBranchMoved f3 d3)
    (DIsBeyond : Def P w K mg base CX0 1 "is_beyond" ["values"] spIsBeyond f4 d4)
    {f : Addr} {fd : FuncData} (F : Fun K "one_leap" "one_leap" sOneLeap f fd) : FnOk P w K mg base CX0 8 f fd ["branches", "values"] spOneLeap := by
  refine F.ok scOneLeap (fun vs H Q E h => ?_) (fun cdv A outer s H vs Q E hr h => ⟨_, pss_cons (ps_set (i := 2) scOneLeap.nd rfl (.inl rfl) (pe_call DPatternAt.ok (hr.mono (by decide)) rfl DPatternAt.m DPatternAt.kp DPatternAt.b .nil pass0 (pa_cons (pv 0) (pa_cons (pv 1) pa_nil)))) (pss_cons (ps_asg (pe_call DOften.ok (hr.mono (by decide)) rfl DOften.m DOften.kp DOften.b .nil pass0 (pa_cons (pv 0) (pa_cons (pv 2) (pa_cons (pv 1) pa_nil)))) (pg_tup rfl (pgs_cons (pg_name (i := 3) scOneLeap.nd rfl (.inl rfl)) (pgs_cons (pg_name (i := 4) scOneLeap.nd rfl (.inl rfl)) pgs_nil)))) (pss_cons (ps_if (pt_cmp (pc_lt (pv 3) pe_int)) (pss_one (ps_ret (pe_tup (pa_cons pe_int (pa_cons (pv 2) (pa_cons (pe_un un_neg pe_int) (pa_cons (pv 1) pa_nil))))))) pss_nil) (pss_cons (ps_if (pt_cmp (pc_gt (pv 3) pe_int)) (pss_one (ps_ret (pe_tup (pa_cons pe_int (pa_cons (pv 2) (pa_cons (pv 3) (pa_cons (pv 4) pa_nil))))))) pss_nil) (pss_cons (ps_set (i := 4) scOneLeap.nd rfl (.inl rfl) (pe_call DBranchMoved.ok (hr.mono (by decide)) rfl DBranchMoved.m DBranchMoved.kp DBranchMoved.b .nil pass0 (pa_cons (pv 0) (pa_cons (pe_ix ix_list (pv 2) pe_int (fun _ _ => rfl)) (pa_cons (pv 1) pa_nil))))) (pss_cons (ps_if (pt_val (pe_call DIsBeyond.ok (hr.mono (by decide)) rfl DIsBeyond.m DIsBeyond.kp DIsBeyond.b .nil pass0 (pa_cons (pv 4) pa_nil))) (pss_one (ps_ret (pe_tup (pa_cons pe_int (pa_cons (pe_slice sl_list (pv 2) po_none (po_some pe_int)) (pa_cons pe_int (pa_cons (pv 4) pa_nil))))))) pss_nil) (pss_one (ps_ret (pe_tup (pa_cons pe_int (pa_cons (pe_slice sl_list (pv 2) po_none (po_some pe_int)) (pa_cons pe_int (pa_cons (pv 4) pa_nil)))))))))))), ?_⟩)
  · obtain ⟨a, b, l, s, x, rfl, _⟩ := h
    rfl
  · obtain ⟨a, b, l, s, x, rfl, ha, hb, ok, h4, hx, k⟩ := h
    obtain ⟨pl, p3, rest, pe⟩ := patternAt_says hx
    have hxl := chosen_lt hx
    unfold oneLeap at k
    refine ⟨_, rfl, _, rfl, a, b, l, s, rfl, ha, hb, ok, h4, fun H1 pa e1 npa hpa => ?_⟩
    generalize patternAt l s = p at pl p3 pe k hpa
    have hne : p ≠ [] := by
      rw [pe]
      exact fun z => by cases z
    refine ⟨_, rfl, _, rfl, _, rfl, a, pa, b, l, p, s, rfl, ha.same e1, hpa, hb.same e1, ok, h4, pl, p3, hne, fun H2 t q e2 nt ht hq hqI => ?_⟩
    have e02 := e1.trans e2
    unfold oftenV at hqI
    refine ⟨t, _, rfl, SqT.of ht, rfl, _, _, rfl, _, _, rfl, rfl, _, rfl, _, _, rfl, rfl, _, rfl, ?_⟩
    have hqb : q = b ∨ H q = none := hq.imp id fun z => e1.free z
    have hp2 : IsI H2 pa (nats p) := hpa.same e2
    cases ht0 : timesOf l p s with
    | none =>
      rw [ht0] at k hqI
      refine tru rfl ⟨_, rfl, _, rfl, _, rfl, by show 4 ≤ sizeLine; decide, fun u hu => ?_⟩
      exact k _ u pa b (e02.new hu) (e02.free hu) npa (.inl rfl) upd_same ((upd_ne (ne_of_none hp2 hu)).trans hp2) ((upd_ne (ne_of_none (e02 _ _ hb) hu)).trans (e02 _ _ hb))
    | some m =>
      rw [ht0] at k hqI
      refine fls (decide_eq_false (show ¬ ((m : Nat) : Int) < 0 by omega)) ⟨_, rfl, _, _, rfl, rfl, _, rfl, ?_⟩
      cases m with
      | succ m =>
        refine tru (decide_eq_true (show ((m + 1 : Nat) : Int) > 0 by omega)) ⟨_, rfl, _, rfl, _, rfl, by show 4 ≤ sizeLine; decide, fun u hu => ?_⟩
        exact k _ u pa q (e02.new hu) (e02.free hu) npa hqb upd_same ((upd_ne (ne_of_none hp2 hu)).trans hp2) ((upd_ne (ne_of_none hqI hu)).trans hqI)
      | zero =>
        refine fls rfl ?_
        have hp0 : ((nats p).map V.int)[0]? = some (.int (x : Nat)) := by
          rw [pe]
          rfl
        refine ⟨_, rfl, _, rfl, pa, _, _, _, rfl, rfl, SqL.of hp2, atI_nat (j := 0) hp0, _, rfl, a, b, l, x, s, rfl, ha.same e02, hb.same e02, ok, h4, hxl, fun H3 q3 e3 nq3 hq3 => ?_⟩
        have e03 := e02.trans e3
        refine ⟨_, rfl, q3, _, rfl, hq3, fun H4 e4 => ⟨_, rfl, ?_⟩⟩
        have hp4 : IsI H4 pa (nats p) := (hp2.same e3).same e4
        have hq4 := hq3.same e4
        have e04 := e03.trans e4
        have fin : ∀ (z : Int) (p1 : Addr), z = (if VaaclBase.isBeyond (VaaclBase.moved (moveOf l x) s) then 1 else 0) → H4 p1 = none → ∀ u : Addr, (upd H4 p1 (.lst (cutV ((nats p).map V.int) none (some 1)))) u = none →
            Q (.ref u) (upd (upd H4 p1 (.lst (cutV ((nats p).map V.int) none (some 1)))) u (.tup [.int z, .ref p1, .int 1, .ref q3])) := by
          intro z p1 hz h1 u hu
          have cut : cutV ((nats p).map V.int) none (some 1) = (nats [x]).map V.int := by
            rw [show (1 : Int) = ((1 : Nat) : Int) from rfl, cut_take, pe]
            rfl
          have hI1 : IsI (upd H4 p1 (.lst (cutV ((nats p).map V.int) none (some 1)))) p1 (nats [x]) := by
            unfold IsI
            rw [upd_same, cut]
          have e5 : Same H (upd H4 p1 (.lst (cutV ((nats p).map V.int) none (some 1)))) := e04.new h1
          have hq5 : IsI (upd H4 p1 (.lst (cutV ((nats p).map V.int) none (some 1)))) q3 (VaaclBase.moved (moveOf l x) s) := (upd_ne (ne_of_none hq4 h1)).trans hq4
          rw [hz]
          exact k _ u p1 q3 (e5.new hu) (e5.free hu) (e04.free h1) (.inr (e02.free nq3)) upd_same ((upd_ne (ne_of_none hI1 hu)).trans hI1) ((upd_ne (ne_of_none hq5 hu)).trans hq5)
        by_cases cb : VaaclBase.isBeyond (VaaclBase.moved (moveOf l x) s) = true
        · refine tru cb ⟨_, rfl, _, rfl, pa, _, rfl, SqL.of hp4, fun p1 h1 => ⟨_, rfl, by show 4 ≤ sizeLine; decide, fun u hu => ?_⟩⟩
          exact fin 1 p1 (by rw [if_pos cb]) h1 u hu
        · refine fls (by simpa using cb) ⟨_, rfl, _, rfl, pa, _, rfl, SqL.of hp4, fun p1 h1 => ⟨_, rfl, by show 4 ≤ sizeLine; decide, fun u hu => ?_⟩⟩
          exact fin 0 p1 (by rw [if_neg cb]) h1 u hu
end
end Lp
namespace Lp
open PySem PySem.Spec PyProof.Rows L2
open VaaclBase (Values)
open Vaacle (timesOf followed Leap Leapt leapLoop patternAt moveOf howTold)
theorem oneLeap_length {l : LoopT} {s : Values} {x : Nat} (ok : GoodL s.length l) (hx : VaaclBase.chosen l s = some x) : (oneLeap l s x).2.2.2.length = s.length := by
  obtain ⟨pl, _, _⟩ := patternAt_says hx
  have okm := patM_ok (n := s.length) ok.ok pl
  unfold oneLeap
  split
  · rfl
  · show (VaaclBase.moved (moveOf l x) s).length = s.length
    rw [moved_length]
    exact (ok.at_ (chosen_lt hx)).1.1
  · show (itr _ _ s).length = s.length
    rw [itr_length okm.1.symm, okm.1]
/-- a turn of leap_loop -/
theorem leapLoop_turn {l : LoopT} {v : Values} {x : Nat} (ok : GoodL v.length l) (h4 : v.length ≤ 4) (hx : VaaclBase.chosen l v = some x) (m r : Nat) (L : List Leap) :
    (((oneLeap l v x).1 = 2 ∧ (oneLeap l v x).2.2.1 = none ∧ leapLoop 0 l (m + 1) ⟨.over, r, v, L⟩ = ⟨.never, r, (oneLeap l v x).2.2.2, L ++ [⟨0, (oneLeap l v x).2.1, (oneLeap l v x).2.2.1⟩]⟩) ∨
    (∃ t : Nat, (oneLeap l v x).1 = 1 ∧ (oneLeap l v x).2.2.1 = some t ∧ leapLoop 0 l (m + 1) ⟨.over, r, v, L⟩ = ⟨.beyond, r + t * (oneLeap l v x).2.1.length, (oneLeap l v x).2.2.2, L ++ [⟨0, (oneLeap l v x).2.1, (oneLeap l v x).2.2.1⟩]⟩) ∨
    (∃ t : Nat, (oneLeap l v x).1 = 0 ∧ (oneLeap l v x).2.2.1 = some t ∧ leapLoop 0 l (m + 1) ⟨.over, r, v, L⟩ = leapLoop 0 l m ⟨.over, r + t * (oneLeap l v x).2.1.length, (oneLeap l v x).2.2.2, L ++ [⟨0, (oneLeap l v x).2.1, (oneLeap l v x).2.2.1⟩]⟩)) := by
  obtain ⟨pl, p3, rest, pe⟩ := patternAt_says hx
  have e : leapLoop 0 l (m + 1) ⟨.over, r, v, L⟩ = match timesOf l (patternAt l v) v with
        | none => (⟨.never, r, v, L ++ [⟨0, patternAt l v, none⟩]⟩ : Leapt)
        | some 0 => if (Vaacle.oneRound 0 l x ⟨.over, r, v, L⟩).how = .over then leapLoop 0 l m (Vaacle.oneRound 0 l x ⟨.over, r, v, L⟩) else Vaacle.oneRound 0 l x ⟨.over, r, v, L⟩
        | some q => leapLoop 0 l m ⟨.over, r + q * (patternAt l v).length, Vaaclb.after ((Vaacle.beginnings l v.length (patternAt l v)).getLastD []) q v, L ++ [⟨0, patternAt l v, some q⟩]⟩ := by
    conv => lhs; unfold leapLoop
    show (match VaaclBase.chosen l v with | none => (⟨.over, r, v, L⟩ : Leapt) | some b => _) = _
    rw [hx]
    rfl
  rw [e]
  unfold oneLeap
  cases ht : timesOf l (patternAt l v) v with
  | none => exact .inl ⟨rfl, rfl, rfl⟩
  | some q =>
    cases q with
    | zero =>
      have eo : Vaacle.oneRound 0 l x ⟨.over, r, v, L⟩ = ⟨if VaaclBase.isBeyond (VaaclBase.moved (moveOf l x) v) then .beyond else .over, r + 1, VaaclBase.moved (moveOf l x) v, L ++ [⟨0, [x], some 1⟩]⟩ := rfl
      show _ ∨ (∃ t : Nat, (if VaaclBase.isBeyond (VaaclBase.moved (moveOf l x) v) = true then (1 : Int) else 0) = 1 ∧ some 1 = some t ∧ (if (Vaacle.oneRound 0 l x ⟨.over, r, v, L⟩).how = .over then leapLoop 0 l m (Vaacle.oneRound 0 l x ⟨.over, r, v, L⟩) else Vaacle.oneRound 0 l x ⟨.over, r, v, L⟩) = _) ∨
        (∃ t : Nat, (if VaaclBase.isBeyond (VaaclBase.moved (moveOf l x) v) = true then (1 : Int) else 0) = 0 ∧ some 1 = some t ∧ (if (Vaacle.oneRound 0 l x ⟨.over, r, v, L⟩).how = .over then leapLoop 0 l m (Vaacle.oneRound 0 l x ⟨.over, r, v, L⟩) else Vaacle.oneRound 0 l x ⟨.over, r, v, L⟩) = _)
      rw [eo]
      cases VaaclBase.isBeyond (VaaclBase.moved (moveOf l x) v) with
      | true => exact .inr (.inl ⟨1, rfl, rfl, rfl⟩)
      | false => exact .inr (.inr ⟨1, rfl, rfl, rfl⟩)
    | succ q =>
      refine .inr (.inr ⟨q + 1, rfl, rfl, ?_⟩)
      have sm := times_small ok.ok h4 pl (by rw [pe]; exact fun z => by cases z) rfl ht
      have okm := patM_ok (n := v.length) ok.ok pl
      show leapLoop 0 l m ⟨.over, r + (q + 1) * (patternAt l v).length, Vaaclb.after ((Vaacle.beginnings l v.length (patternAt l v)).getLastD []) (q + 1) v, L ++ [⟨0, patternAt l v, some (q + 1)⟩]⟩ = _
      rw [last_beginnings, after_itr okm.1.symm sm]
section
variable {P : Program} {w : World} {K : PySem.W.Frag} {mg : Str → Option Value} {base : Heap}
/-! ## leap_loop -/
abbrev sLeapLoop : Stmt := top 38
theorem scLeapLoop : FnScope ["branches", "values", "rounds", "leaps", "turn", "kind", "pattern", "times"] ["branches", "values"] (defScope sLeapLoop) := ⟨rfl, rfl, rfl, by decide +kernel, rfl, by decide +kernel, by decide +kernel⟩
def LeapAt1 (H0 : Hp) (H : Hp) (t : Addr) (x : Leap) : Prop := H0 t = none ∧ ∃ pa : Addr, H0 pa = none ∧ H t = some (.tup [.ref pa, .int (VaaclBase.orNone x.times)]) ∧ IsI H pa (nats x.pattern) ∧ x.pattern.length ≤ 3
def LeapsAt1 (H0 : Hp) (H : Hp) (r : Addr) (L : List Leap) : Prop := ∃ ts : List Addr, H r = some (.lst (ts.map V.ref)) ∧ Each (LeapAt1 H0 H) ts L
def LeapR (H0 : Hp) (r : Addr) (H : Hp) (t : Addr) (x : Leap) : Prop := t ≠ r ∧ H0 t = none ∧ ∃ pa : Addr, pa ≠ r ∧ H0 pa = none ∧ H t = some (.tup [.ref pa, .int (VaaclBase.orNone x.times)]) ∧ IsI H pa (nats x.pattern) ∧ x.pattern.length ≤ 3
theorem LeapR.one {H0 H : Hp} {r t : Addr} {x : Leap} : LeapR H0 r H t x → LeapAt1 H0 H t x
  | ⟨_, h1, pa, _, h2, h3, h4⟩ => ⟨h1, pa, h2, h3, h4⟩
theorem LeapR.but {H0 H H' : Hp} {r t : Addr} {x : Leap} (e : ∀ b o, b ≠ r → H b = some o → H' b = some o) : LeapR H0 r H t x → LeapR H0 r H' t x
  | ⟨h0, h1, pa, hp, h2, h3, h4, h5⟩ => ⟨h0, h1, pa, hp, h2, e _ _ h0 h3, e _ _ hp h4, h5⟩
def spLeapLoop : Sp := fun vs H Q _ => ∃ (a b : Addr) (l : LoopT) (s : Values), vs = [.ref a, .ref b] ∧ LoopAt H a l ∧ IsI H b s ∧ GoodL s.length l ∧ s.length ≤ 4 ∧
  ∀ (H' : Hp) (t r q : Addr) (y : Leapt), y = leapLoop 0 l 12 ⟨.over, 0, s, []⟩ → Same H H' → H t = none → H r = none → (q = b ∨ H q = none) → H' t = some (.tup [.int (howTold y.how), .int (y.rounds : Nat), .ref r, .ref q]) →
    LeapsAt1 H H' r y.leaps → IsI H' q y.values → y.values.length = s.length → y.leaps.length ≤ 12 → Q (.ref t) H'
theorem ok_leap_loop (G : NamesOf mg) {f1 f2 : Addr} {d1 d2 : FuncData} (DChosen : Def P w K mg base CX0 3 "chosen" ["branches", "values"] spChosen f1 d1)
    (DOneLeap : Def P w K mg base CX0 8 "one_leap" ["branches", "values"] spOneLeap f2 d2)
    {f : Addr} {fd : FuncData} (F : Fun K "leap_loop" "leap_loop" sLeapLoop f fd) : FnOk P w K mg base CX0 9 f fd ["branches", "values"] spLeapLoop := by
  refine F.ok scLeapLoop (fun vs H Q E h => ?_) (fun cdv A outer s H vs Q E hr h => ⟨_, pss_cons (ps_set (i := 2) scLeapLoop.nd rfl (.inl rfl) pe_int) (pss_cons (ps_set (i := 3) scLeapLoop.nd rfl (.inl rfl) (pe_lst pa_nil)) (pss_cons (ps_for PassesOwn.never rfl (pi_range1 rfl G.range (pa_cons (pe_gint rfl G.MOST_LEAPS) pa_nil)) (pg_name (i := 4) scLeapLoop.nd rfl (.inl rfl)) (pss_cons (ps_if (pt_cmp (pc_lt (pe_call DChosen.ok (hr.mono (by decide)) rfl DChosen.m DChosen.kp DChosen.b .nil pass0 (pa_cons (pv 0) (pa_cons (pv 1) pa_nil))) pe_int)) (pss_one (ps_ret (pe_tup (pa_cons pe_int (pa_cons (pv 2) (pa_cons (pv 3) (pa_cons (pv 1) pa_nil))))))) pss_nil) (pss_cons (ps_asg (pe_call DOneLeap.ok (hr.mono (by decide)) rfl DOneLeap.m DOneLeap.kp DOneLeap.b .nil pass0 (pa_cons (pv 0) (pa_cons (pv 1) pa_nil))) (pg_tup rfl (pgs_cons (pg_name (i := 5) scLeapLoop.nd rfl (.inl rfl)) (pgs_cons (pg_name (i := 6) scLeapLoop.nd rfl (.inl rfl)) (pgs_cons (pg_name (i := 7) scLeapLoop.nd rfl (.inl rfl)) (pgs_cons (pg_name (i := 1) scLeapLoop.nd rfl (.inl rfl)) pgs_nil)))))) (pss_cons (ps_expr (pe_bm PySem.F.plainAttrs_list PySem.F.slot_list_append PySem.F.type_list_append mt_append (pv 3) (pa_cons (pe_tup (pa_cons (pv 6) (pa_cons (pv 7) pa_nil))) pa_nil))) (pss_cons (ps_if (pt_cmp (pc_eqI (pv 5) pe_int)) (pss_one (ps_ret (pe_tup (pa_cons pe_int (pa_cons (pv 2) (pa_cons (pv 3) (pa_cons (pv 1) pa_nil))))))) pss_nil) (pss_cons (ps_aug (i := 2) scLeapLoop.nd rfl (.inl rfl) (pe_op op_mul (pv 7) (pe_callB call_len_seq (by rfl) G.len PySem.boot_len (pa_cons (pv 6) pa_nil))) ip_add) (pss_one (ps_if (pt_cmp (pc_eqI (pv 5) pe_int)) (pss_one (ps_ret (pe_tup (pa_cons pe_int (pa_cons (pv 2) (pa_cons (pv 3) (pa_cons (pv 1) pa_nil))))))) pss_nil)))))))) (pss_cons (ps_if (pt_cmp (pc_lt (pe_call DChosen.ok (hr.mono (by decide)) rfl DChosen.m DChosen.kp DChosen.b .nil pass0 (pa_cons (pv 0) (pa_cons (pv 1) pa_nil))) pe_int)) (pss_one (ps_ret (pe_tup (pa_cons pe_int (pa_cons (pv 2) (pa_cons (pv 3) (pa_cons (pv 1) pa_nil))))))) pss_nil) (pss_one (ps_ret (pe_tup (pa_cons pe_int (pa_cons (pv 2) (pa_cons (pv 3) (pa_cons (pv 1) pa_nil)))))))))), ?_⟩)
  · obtain ⟨a, b, l, s, rfl, _⟩ := h
    rfl
  · obtain ⟨a, b, l, s, rfl, ha, hb, ok, h4, k⟩ := h
    refine ⟨by show 0 ≤ sizeLine; decide, fun r hr0 => ?_⟩
    have e0 : Same H (upd H r (.lst [])) := (Same.refl H).new hr0
    refine ⟨_, rfl, by decide, by decide, for_range (lo := 0) (n := 12) (fun i σ H' => ∃ (c : Addr) (v1 v2 v3 v4 : Option V) (rd : Nat) (v : Values) (L : List Leap) (ts : List Addr), σ = [some (.ref a), some (.ref c), some (.int (rd : Nat)), some (.ref r), v1, v2, v3, v4] ∧ Same H H' ∧ c ≠ r ∧ (c = b ∨ H c = none) ∧
        IsI H' c v ∧ v.length = s.length ∧ H' r = some (.lst (ts.map V.ref)) ∧ Each (LeapR H r H') ts L ∧ L.length = i ∧ leapLoop 0 l 12 ⟨.over, 0, s, []⟩ = leapLoop 0 l (12 - i) ⟨.over, rd, v, L⟩)
      ⟨b, none, none, none, none, 0, s, [], [], rfl, e0, ne_of_none hb hr0, .inl rfl, e0 _ _ hb, rfl, upd_same, trivial, rfl, rfl⟩ ?_ ?_⟩
    · rintro i σ H' hi ⟨c, v1, v2, v3, v4, rd, v, L, ts, rfl, e, cr, cb, hc, vl, hL, eL, Ll, eq⟩
      -- how a return goes
      have out : ∀ (H2 : Hp) (kind : Int) (c2 : Addr) (y : Leapt) (ts2 : List Addr), kind = howTold y.how → y = leapLoop 0 l 12 ⟨.over, 0, s, []⟩ → Same H H2 → c2 ≠ r → (c2 = b ∨ H c2 = none) → IsI H2 c2 y.values → y.values.length = s.length → H2 r = some (.lst (ts2.map V.ref)) →
          Each (LeapR H r H2) ts2 y.leaps → y.leaps.length ≤ 12 → ∀ t : Addr, H2 t = none → Q (.ref t) (upd H2 t (.tup [.int kind, .int (y.rounds : Nat), .ref r, .ref c2])) := by
        intro H2 kind c2 y ts2 hk hy e2 cr2 cb2 hc2 vl2 hL2 eL2 ll2 t ht
        rw [hk]
        have e3 : Same H2 (upd H2 t (.tup [.int (howTold y.how), .int (y.rounds : Nat), .ref r, .ref c2])) := (Same.refl H2).new ht
        exact k _ t r c2 y hy (e2.trans e3) (e2.free ht) hr0 cb2 upd_same ⟨ts2, e3 _ _ hL2, eL2.mono fun _ _ z => (z.but fun b o _ h => e3 b o h).one⟩ (hc2.same e3) vl2 ll2
      refine ⟨_, rfl, _, rfl, a, c, l, v, rfl, ha.same e, hc, by rw [vl]; exact ok, fun H2 e2 => ?_⟩
      refine ⟨_, _, rfl, rfl, _, rfl, ?_⟩
      have e02 := e.trans e2
      cases hch : VaaclBase.chosen l v with
      | none =>
        have fin : leapLoop 0 l (12 - i) ⟨.over, rd, v, L⟩ = ⟨.over, rd, v, L⟩ := by
          rw [show 12 - i = (12 - (i + 1)) + 1 by omega]
          conv => lhs; unfold leapLoop
          show (match VaaclBase.chosen l v with | none => (⟨.over, rd, v, L⟩ : Leapt) | some b => _) = _
          rw [hch]
        rw [fin] at eq
        refine tru rfl ⟨_, rfl, _, rfl, _, rfl, by show 4 ≤ sizeLine; decide, fun t ht => ?_⟩
        exact out H2 0 c ⟨.over, rd, v, L⟩ ts rfl eq.symm e02 cr cb (hc.same e2) vl (e2 _ _ hL) (eL.mono fun _ _ z => z.but fun b o _ h => e2 b o h) (by show L.length ≤ 12; omega) t ht
      | some x =>
        refine fls (decide_eq_false (show ¬ ((x : Nat) : Int) < 0 by omega)) ?_
        have okv : GoodL v.length l := by rw [vl]; exact ok
        have ol := oneLeap_length okv hch
        have turn := leapLoop_turn okv (by omega) hch (12 - (i + 1)) rd L
        rw [show 12 - (i + 1) + 1 = 12 - i by omega, ← eq] at turn
        have pm := patternAt_says hch
        refine ⟨_, rfl, _, rfl, a, c, l, v, x, rfl, ha.same e02, hc.same e2, okv, by omega, hch, fun H3 t pa q e3 nt npa hq ht hpa hqI => ?_⟩
        have plen : (oneLeap l v x).2.1.length ≤ 3 := by
          unfold oneLeap
          split
          · exact pm.2.1
          · show 1 ≤ 3; omega
          · exact pm.2.1
        generalize oneLeap l v x = o at ol turn ht hpa hqI plen
        obtain ⟨kind, pat, tm, vals⟩ := o
        dsimp only at ol turn ht hpa hqI plen
        have e03 := e02.trans e3
        have hr3 : H3 r = some (.lst (ts.map V.ref)) := e3 _ _ (e2 _ _ hL)
        have par : pa ≠ r := (ne_of_none (e2 _ _ hL) npa).symm
        have qr : q ≠ r := by
          rcases hq with rfl | hq
          · exact cr
          · exact (ne_of_none (e2 _ _ hL) hq).symm
        have qb : q = b ∨ H q = none := by
          rcases hq with rfl | hq
          · exact cb
          · exact .inr (e02.free hq)
        have tl : ts.length = i := by rw [eL.length, Ll]
        refine ⟨t, _, rfl, SqT.of ht, rfl, _, _, rfl, _, _, rfl, _, _, rfl, _, _, rfl, rfl, ?_⟩
        refine ⟨_, rfl, .inl ⟨rfl, _, SqL.of hr3⟩, _, rfl, _, rfl, by show 2 ≤ sizeLine; decide, fun T hT => ?_⟩
        have rT : r ≠ T := ne_of_none hr3 hT
        have e4 : Same H3 (upd H3 T (.tup [.ref pa, .int (VaaclBase.orNone tm)])) := (Same.refl H3).new hT
        refine ⟨r, _, _, rfl, rfl, e4 _ _ hr3, by rw [List.length_map]; exact sizeOk (by omega), ?_⟩
        have e5 : Same H (upd (upd H3 T (.tup [.ref pa, .int (VaaclBase.orNone tm)])) r (.lst (ts.map V.ref ++ [.ref T]))) := (e03.trans e4).put hr0
        have but5 : ∀ b o, b ≠ r → H3 b = some o → (upd (upd H3 T (.tup [.ref pa, .int (VaaclBase.orNone tm)])) r (.lst (ts.map V.ref ++ [.ref T]))) b = some o := fun b o hb h => (upd_ne hb).trans (e4 _ _ h)
        have hr5 : (upd (upd H3 T (.tup [.ref pa, .int (VaaclBase.orNone tm)])) r (.lst (ts.map V.ref ++ [.ref T]))) r = some (.lst ((ts ++ [T]).map V.ref)) := by
          rw [upd_same, List.map_append]
          rfl
        have hT5 : (upd (upd H3 T (.tup [.ref pa, .int (VaaclBase.orNone tm)])) r (.lst (ts.map V.ref ++ [.ref T]))) T = some (.tup [.ref pa, .int (VaaclBase.orNone tm)]) := (upd_ne rT.symm).trans upd_same
        have eL5 : Each (LeapR H r (upd (upd H3 T (.tup [.ref pa, .int (VaaclBase.orNone tm)])) r (.lst (ts.map V.ref ++ [.ref T])))) (ts ++ [T]) (L ++ [⟨0, pat, tm⟩]) :=
          Each.snoc ⟨rT.symm, e03.free hT, pa, par, e02.free npa, hT5, but5 _ _ par hpa, plen⟩ (eL.mono fun _ _ z => z.but fun b o hb h => but5 b o hb (e3 _ _ (e2 _ _ h)))
        have hq5 : IsI (upd (upd H3 T (.tup [.ref pa, .int (VaaclBase.orNone tm)])) r (.lst (ts.map V.ref ++ [.ref T]))) q vals := but5 _ _ qr hqI
        have hpa5 : IsI (upd (upd H3 T (.tup [.ref pa, .int (VaaclBase.orNone tm)])) r (.lst (ts.map V.ref ++ [.ref T]))) pa (nats pat) := but5 _ _ par hpa
        generalize (upd (upd H3 T (.tup [.ref pa, .int (VaaclBase.orNone tm)])) r (.lst (ts.map V.ref ++ [.ref T]))) = H5 at e5 hr5 eL5 hq5 hpa5 ⊢
        refine ⟨_, rfl, _, _, rfl, rfl, _, rfl, ?_⟩
        rcases turn with ⟨rfl, rfl, et⟩ | ⟨tn, rfl, rfl, et⟩ | ⟨tn, rfl, rfl, et⟩
        · refine tru rfl ⟨_, rfl, _, rfl, _, rfl, by show 4 ≤ sizeLine; decide, fun u hu => ?_⟩
          exact out H5 2 q ⟨.never, rd, vals, L ++ [⟨0, pat, none⟩]⟩ (ts ++ [T]) rfl et.symm e5 qr qb hq5 (by show vals.length = _; omega) hr5 eL5 (by show (L ++ _).length ≤ 12; rw [List.length_append, Ll]; show i + 1 ≤ 12; omega) u hu
        · refine fls rfl ?_
          refine ⟨_, rfl, _, rfl, _, rfl, pa, _, rfl, .inl (SqL.of hpa5), _, _, rfl, rfl, .inr ⟨by omega, by rw [List.length_map, nats_length]; omega⟩, _, _, rfl, rfl, _, rfl, _, _, rfl, rfl, _, rfl, tru rfl ?_⟩
          refine ⟨_, rfl, _, rfl, _, rfl, by show 4 ≤ sizeLine; decide, fun u hu => ?_⟩
          have := out H5 1 q ⟨.beyond, rd + tn * pat.length, vals, L ++ [⟨0, pat, some tn⟩]⟩ (ts ++ [T]) rfl et.symm e5 qr qb hq5 (by show vals.length = _; omega) hr5 eL5 (by show (L ++ _).length ≤ 12; rw [List.length_append, Ll]; show i + 1 ≤ 12; omega) u hu
          dsimp only at this ⊢
          rw [List.length_map, nats_length]
          rw [show ((rd + tn * pat.length : Nat) : Int) = (rd : Int) + ((tn : Nat) : Int) * ((pat.length : Nat) : Int) by rw [Int.natCast_add, Int.natCast_mul]] at this
          exact this
        · refine fls rfl ?_
          refine ⟨_, rfl, _, rfl, _, rfl, pa, _, rfl, .inl (SqL.of hpa5), _, _, rfl, rfl, .inr ⟨by omega, by rw [List.length_map, nats_length]; omega⟩, _, _, rfl, rfl, _, rfl, _, _, rfl, rfl, _, rfl, fls rfl ?_⟩
          refine ⟨q, some (.int ((0 + (i : Nat) : Int))), some (.int 0), some (.ref pa), some (.int (tn : Nat)), rd + tn * pat.length, vals, L ++ [⟨0, pat, some tn⟩], ts ++ [T], ?_, e5, qr, qb, hq5, by omega, hr5, eL5, by rw [List.length_append, Ll]; rfl, et⟩
          dsimp only
          rw [List.length_map, nats_length, Int.natCast_add, Int.natCast_mul]
          rfl
    · rintro σ H' ⟨c, v1, v2, v3, v4, rd, v, L, ts, rfl, e, cr, cb, hc, vl, hL, eL, Ll, eq⟩
      have out : ∀ (H2 : Hp) (kind : Int) (y : Leapt), kind = howTold y.how → y = leapLoop 0 l 12 ⟨.over, 0, s, []⟩ → Same H' H2 → y.rounds = rd → y.values = v → y.leaps = L → ∀ t : Addr, H2 t = none → Q (.ref t) (upd H2 t (.tup [.int kind, .int (rd : Nat), .ref r, .ref c])) := by
        intro H2 kind y hk hy e2 h1 h2 h3 t ht
        rw [hk]
        have e3 : Same H' (upd H2 t (.tup [.int (howTold y.how), .int (rd : Nat), .ref r, .ref c])) := e2.new ht
        refine k _ t r c y hy (e.trans e3) ((e.trans e2).free ht) hr0 cb ?_ ⟨ts, e3 _ _ hL, ?_⟩ ?_ (by rw [h2]; exact vl) (by rw [h3]; omega)
        · rw [h1]
          exact upd_same
        · rw [h3]
          exact eL.mono fun _ _ z => (z.but fun b o _ h => e3 b o h).one
        · rw [h2]
          exact hc.same e3
      refine ⟨_, rfl, _, rfl, a, c, l, v, rfl, ha.same e, hc, by rw [vl]; exact ok, fun H2 e2 => ?_⟩
      refine ⟨_, _, rfl, rfl, _, rfl, ?_⟩
      have e0 : leapLoop 0 l (12 - 12) ⟨.over, rd, v, L⟩ = match VaaclBase.chosen l v with | none => (⟨.over, rd, v, L⟩ : Leapt) | some _ => ⟨.many, rd, v, L⟩ := rfl
      rw [e0] at eq
      cases hch : VaaclBase.chosen l v with
      | none =>
        rw [hch] at eq
        refine tru rfl ⟨_, rfl, _, rfl, _, rfl, by show 4 ≤ sizeLine; decide, fun t ht => ?_⟩
        exact out H2 0 _ rfl eq.symm e2 rfl rfl rfl t ht
      | some x =>
        rw [hch] at eq
        refine fls (decide_eq_false (show ¬ ((x : Nat) : Int) < 0 by omega)) ⟨_, rfl, _, rfl, _, rfl, by show 4 ≤ sizeLine; decide, fun t ht => ?_⟩
        exact out H2 3 _ rfl eq.symm e2 rfl rfl rfl t ht
end
end Lp
namespace Lp
open PySem PySem.Spec PyProof.Rows L2
open VaaclBase (Values)
open Vaacle (timesOf followed Leap Leapt leapLoop leapPiece leapFrom patternAt moveOf howTold)
def GoodP (n : Nat) : PieceT → Prop
  | .move m => OkM n m
  | .loop l => GoodL n l
/-- a program that the reader lets through -/
structure GoodProg (p : ProgT) : Prop where
  n1 : 1 ≤ p.counters
  n4 : p.counters ≤ 4
  few : p.pieces.length ≤ 5
  each : ∀ x ∈ p.pieces, GoodP p.counters x
theorem leapPiece_more {n : Nat} {p : PieceT} (ok : GoodP n p) {s : Values} (hs : s.length = n) (hm : ∀ l, p = .loop l → (leapLoop 0 l 12 ⟨.over, 0, s, []⟩).values.length = n ∧ (leapLoop 0 l 12 ⟨.over, 0, s, []⟩).leaps.length ≤ 12) :
    (leapPiece 0 ⟨.over, 0, s, []⟩ p).values.length = n ∧ (leapPiece 0 ⟨.over, 0, s, []⟩ p).leaps.length ≤ 12 := by
  cases p with
  | move m =>
    show (VaaclBase.moved m s).length = n ∧ 0 ≤ 12
    rw [moved_length]
    exact ⟨ok.1, by omega⟩
  | loop l => exact hm l rfl
theorem leapFrom_stop {y : Leapt} (h : y.how ≠ .over) : ∀ l : List (PieceT × Nat), leapFrom l y = y
  | [] => rfl
  | p :: r => by
    show (match y.how with | .over => leapFrom r (leapPiece p.2 y p.1) | _ => y) = y
    cases e : y.how with
    | over => exact absurd e h
    | _ => rfl
section
variable {P : Program} {w : World} {K : PySem.W.Frag} {mg : Str → Option Value} {base : Heap}
/-! ## leap_piece -/
abbrev sLeapPiece : Stmt := top 39
theorem scLeapPiece : FnScope ["piece", "values", "kind", "move", "branches", "after"] ["piece", "values"] (defScope sLeapPiece) := ⟨rfl, rfl, rfl, by decide +kernel, rfl, by decide +kernel, by decide +kernel⟩
def spLeapPiece : Sp := fun vs H Q _ => ∃ (a b : Addr) (p : PieceT) (s : Values), vs = [.ref a, .ref b] ∧ PieceAt H a p ∧ IsI H b s ∧ GoodP s.length p ∧ s.length ≤ 4 ∧
  ∀ (H' : Hp) (t r q : Addr) (y : Leapt), y = leapPiece 0 ⟨.over, 0, s, []⟩ p → Same H H' → H t = none → H r = none → (q = b ∨ H q = none) → H' t = some (.tup [.int (howTold y.how), .int (y.rounds : Nat), .ref r, .ref q]) →
    LeapsAt1 H H' r y.leaps → IsI H' q y.values → y.values.length = s.length → y.leaps.length ≤ 12 → Q (.ref t) H'
theorem ok_leap_piece {f1 f2 f3 : Addr} {d1 d2 d3 : FuncData} (DLeapLoop : Def P w K mg base CX0 9 "leap_loop" ["branches", "values"] spLeapLoop f1 d1)
    (DMoved : Def P w K mg base CX0 1 "moved" ["move", "values"] spMoved f2 d2) (DIsBeyond : Def P w K mg base CX0 1 "is_beyond" ["values"] spIsBeyond f3 d3)
    {f : Addr} {fd : FuncData} (F : Fun K "leap_piece" "leap_piece" sLeapPiece f fd) : FnOk P w K mg base CX0 10 f fd ["piece", "values"] spLeapPiece := by
  refine F.ok scLeapPiece (fun vs H Q E h => ?_) (fun cdv A outer s H vs Q E hr h => ⟨_, pss_cons (ps_asg (pv 0) (pg_tup rfl (pgs_cons (pg_name (i := 2) scLeapPiece.nd rfl (.inl rfl)) (pgs_cons (pg_name (i := 3) scLeapPiece.nd rfl (.inl rfl)) (pgs_cons (pg_name (i := 4) scLeapPiece.nd rfl (.inl rfl)) pgs_nil))))) (pss_cons (ps_if (pt_cmp (pc_eqI (pv 2) pe_int)) (pss_one (ps_ret (pe_call DLeapLoop.ok (hr.mono (by decide)) rfl DLeapLoop.m DLeapLoop.kp DLeapLoop.b .nil pass0 (pa_cons (pv 4) (pa_cons (pv 1) pa_nil))))) pss_nil) (pss_cons (ps_set (i := 5) scLeapPiece.nd rfl (.inl rfl) (pe_call DMoved.ok (hr.mono (by decide)) rfl DMoved.m DMoved.kp DMoved.b .nil pass0 (pa_cons (pv 3) (pa_cons (pv 1) pa_nil)))) (pss_cons (ps_if (pt_val (pe_call DIsBeyond.ok (hr.mono (by decide)) rfl DIsBeyond.m DIsBeyond.kp DIsBeyond.b .nil pass0 (pa_cons (pv 5) pa_nil))) (pss_one (ps_ret (pe_tup (pa_cons pe_int (pa_cons pe_int (pa_cons (pe_lst pa_nil) (pa_cons (pv 5) pa_nil))))))) pss_nil) (pss_one (ps_ret (pe_tup (pa_cons pe_int (pa_cons pe_int (pa_cons (pe_lst pa_nil) (pa_cons (pv 5) pa_nil)))))))))), ?_⟩)
  · obtain ⟨a, b, p, s, rfl, _⟩ := h
    rfl
  · obtain ⟨a, b, p, s, rfl, ha, hb, ok, h4, k⟩ := h
    cases p with
    | loop l =>
      obtain ⟨x, y, hX, hl⟩ := ha
      refine ⟨_, rfl, a, _, rfl, SqT.of hX, rfl, _, _, rfl, _, _, rfl, _, _, rfl, rfl, _, rfl, _, _, rfl, rfl, _, rfl, tru rfl ?_⟩
      exact ⟨_, rfl, _, rfl, y, b, l, s, rfl, hl, hb, ok, h4, fun H' t r q z hz => k H' t r q z hz⟩
    | move m =>
      obtain ⟨x, y, hX, hm⟩ := ha
      refine ⟨_, rfl, a, _, rfl, SqT.of hX, rfl, _, _, rfl, _, _, rfl, _, _, rfl, rfl, _, rfl, _, _, rfl, rfl, _, rfl, fls rfl ?_⟩
      refine ⟨_, rfl, _, rfl, x, b, m, s, rfl, hm, hb, ok, h4, fun H1 q e1 nq hq => ?_⟩
      refine ⟨_, rfl, q, _, rfl, hq, fun H2 e2 => ⟨_, rfl, ?_⟩⟩
      have e02 := e1.trans e2
      have hq2 := hq.same e2
      have out : ∀ (r : Addr), H2 r = none → ∀ (kind : Int), kind = howTold (if VaaclBase.isBeyond (VaaclBase.moved m s) = true then .beyond else .over) → ∀ t : Addr, (upd H2 r (.lst [])) t = none → Q (.ref t) (upd (upd H2 r (.lst [])) t (.tup [.int kind, .int 1, .ref r, .ref q])) := by
        intro r hr kind hk t ht
        rw [hk]
        have e3 : Same H (upd H2 r (.lst [])) := e02.new hr
        have rt : r ≠ t := ne_of_none (show (upd H2 r (.lst [])) r = some (.lst []) from upd_same) ht
        have hq3 : IsI (upd H2 r (.lst [])) q (VaaclBase.moved m s) := (upd_ne (ne_of_none hq2 hr)).trans hq2
        exact k _ t r q _ rfl (e3.new ht) (e3.free ht) (e02.free hr) (.inr nq) upd_same ⟨[], (upd_ne rt).trans upd_same, trivial⟩ ((upd_ne (ne_of_none hq3 ht)).trans hq3) (by show (VaaclBase.moved m s).length = _; rw [moved_length]; exact ok.1) (by show 0 ≤ 12; omega)
      by_cases cb : VaaclBase.isBeyond (VaaclBase.moved m s) = true
      · refine tru cb ⟨by show 0 ≤ sizeLine; decide, fun r hr => ⟨_, rfl, by show 4 ≤ sizeLine; decide, fun t ht => ?_⟩⟩
        exact out r hr 1 (by rw [if_pos cb]; rfl) t ht
      · refine fls (by simpa using cb) ⟨by show 0 ≤ sizeLine; decide, fun r hr => ⟨_, rfl, by show 4 ≤ sizeLine; decide, fun t ht => ?_⟩⟩
        exact out r hr 0 (by rw [if_neg cb]; rfl) t ht
/-! ## leap_program -/
abbrev sLeapProgram : Stmt := top 40
theorem scLeapProgram : FnScope ["program", "values", "rounds", "leaps", "at", "piece", "kind", "more", "found", "pattern", "times"] ["program", "values"] (defScope sLeapProgram) := ⟨rfl, rfl, rfl, by decide +kernel, rfl, by decide +kernel, by decide +kernel⟩
def LeapAt (H : Hp) (t : Addr) (x : Leap) : Prop := ∃ pa : Addr, H t = some (.tup [.int (x.piece : Nat), .ref pa, .int (VaaclBase.orNone x.times)]) ∧ IsI H pa (nats x.pattern) ∧ x.pattern.length ≤ 3
def LeapsAt (H : Hp) (r : Addr) (L : List Leap) : Prop := ∃ ts : List Addr, H r = some (.lst (ts.map V.ref)) ∧ Each (LeapAt H) ts L
/-- as LeapAt, none of it being the list at R -/
def LeapB (R : Addr) (H : Hp) (t : Addr) (x : Leap) : Prop := t ≠ R ∧ ∃ pa : Addr, pa ≠ R ∧ H t = some (.tup [.int (x.piece : Nat), .ref pa, .int (VaaclBase.orNone x.times)]) ∧ IsI H pa (nats x.pattern) ∧ x.pattern.length ≤ 3
theorem LeapB.one {H : Hp} {R t : Addr} {x : Leap} : LeapB R H t x → LeapAt H t x
  | ⟨_, pa, _, h2, h3, h4⟩ => ⟨pa, h2, h3, h4⟩
theorem LeapB.but {H H' : Hp} {R t : Addr} {x : Leap} (e : ∀ b o, b ≠ R → H b = some o → H' b = some o) : LeapB R H t x → LeapB R H' t x
  | ⟨h0, pa, hp, h3, h4, h5⟩ => ⟨h0, pa, hp, e _ _ h0 h3, e _ _ hp h4, h5⟩
def spLeapProgram : Sp := fun vs H Q _ => ∃ (a b : Addr) (p : ProgT) (s : Values), vs = [.ref a, .ref b] ∧ ProgAt H a p ∧ IsI H b s ∧ GoodProg p ∧ s.length = p.counters ∧
  ∀ (H' : Hp) (t r q : Addr) (y : Leapt), y = Vaacle.leapt p s → Same H H' → H t = none → H' t = some (.tup [.int (howTold y.how), .int (y.rounds : Nat), .ref r, .ref q]) →
    LeapsAt H' r y.leaps → IsI H' q y.values → y.values.length = s.length → y.leaps.length ≤ 60 → Q (.ref t) H'
theorem ok_leap_program (G : NamesOf mg) {f1 : Addr} {d1 : FuncData} (DLeapPiece : Def P w K mg base CX0 10 "leap_piece" ["piece", "values"] spLeapPiece f1 d1)
    {f : Addr} {fd : FuncData} (F : Fun K "leap_program" "leap_program" sLeapProgram f fd) : FnOk P w K mg base CX0 11 f fd ["program", "values"] spLeapProgram := by
  refine F.ok scLeapProgram (fun vs H Q E h => ?_) (fun cdv A outer s H vs Q E hr h => ⟨_, pss_cons (ps_set (i := 2) scLeapProgram.nd rfl (.inl rfl) pe_int) (pss_cons (ps_set (i := 3) scLeapProgram.nd rfl (.inl rfl) (pe_lst pa_nil)) (pss_cons (ps_for PassesOwn.never rfl (pi_enum (by rfl) G.enumerate (pa_cons (pe_ix ix_tup (pv 0) pe_int (fun _ _ => rfl)) pa_nil)) (pg_tup rfl (pgs_cons (pg_name (i := 4) scLeapProgram.nd rfl (.inl rfl)) (pgs_cons (pg_name (i := 5) scLeapProgram.nd rfl (.inl rfl)) pgs_nil))) (pss_cons (ps_asg (pe_call DLeapPiece.ok (hr.mono (by decide)) rfl DLeapPiece.m DLeapPiece.kp DLeapPiece.b .nil pass0 (pa_cons (pv 5) (pa_cons (pv 1) pa_nil))) (pg_tup rfl (pgs_cons (pg_name (i := 6) scLeapProgram.nd rfl (.inl rfl)) (pgs_cons (pg_name (i := 7) scLeapProgram.nd rfl (.inl rfl)) (pgs_cons (pg_name (i := 8) scLeapProgram.nd rfl (.inl rfl)) (pgs_cons (pg_name (i := 1) scLeapProgram.nd rfl (.inl rfl)) pgs_nil)))))) (pss_cons (ps_aug (i := 2) scLeapProgram.nd rfl (.inl rfl) (pv 7) ip_add) (pss_cons (ps_for PassesOwn.never rfl (pi_list (pv 8)) (pg_tup rfl (pgs_cons (pg_name (i := 9) scLeapProgram.nd rfl (.inl rfl)) (pgs_cons (pg_name (i := 10) scLeapProgram.nd rfl (.inl rfl)) pgs_nil))) (pss_one (ps_expr (pe_bm PySem.F.plainAttrs_list PySem.F.slot_list_append PySem.F.type_list_append mt_append (pv 3) (pa_cons (pe_tup (pa_cons (pv 4) (pa_cons (pv 9) (pa_cons (pv 10) pa_nil)))) pa_nil))))) (pss_one (ps_if (pt_cmp (pc_neI (pv 6) pe_int)) (pss_one (ps_ret (pe_tup (pa_cons (pv 6) (pa_cons (pv 2) (pa_cons (pv 3) (pa_cons (pv 1) pa_nil))))))) pss_nil)))))) (pss_one (ps_ret (pe_tup (pa_cons pe_int (pa_cons (pv 2) (pa_cons (pv 3) (pa_cons (pv 1) pa_nil))))))))), ?_⟩)
  · obtain ⟨a, b, p, s, rfl, _⟩ := h
    rfl
  · obtain ⟨a, b, p, s, rfl, ⟨pl, hX, ps, hpl, ep⟩, hb, ok, hs, k⟩ := h
    have n4 := ok.n4
    refine ⟨by show 0 ≤ sizeLine; decide, fun R hR0 => ?_⟩
    have e0 : Same H (upd H R (.lst [])) := (Same.refl H).new hR0
    have leapt0 : Vaacle.leapt p s = leapFrom p.pieces.zipIdx ⟨.over, 0, s, []⟩ := rfl
    refine ⟨_, rfl, a, _, _, _, rfl, rfl, SqT.of (e0 _ _ hX), atI_nat (j := 1) rfl, pl, _, rfl, SqL.of (e0 _ _ hpl), for_it walk_enum (fun i σ H' => ∃ (c : Addr) (v1 v2 v3 v4 v5 v6 v7 : Option V) (rd : Nat) (v : Values) (L : List Leap) (ts : List Addr),
        σ = [some (.ref a), some (.ref c), some (.int (rd : Nat)), some (.ref R), v1, v2, v3, v4, v5, v6, v7] ∧ Same H H' ∧ c ≠ R ∧ IsI H' c v ∧ v.length = s.length ∧ H' R = some (.lst (ts.map V.ref)) ∧ Each (LeapB R H') ts L ∧ L.length ≤ 12 * i ∧
        Vaacle.leapt p s = leapFrom (p.pieces.zipIdx.drop i) ⟨.over, rd, v, L⟩)
      ⟨b, none, none, none, none, none, none, none, 0, s, [], [], rfl, e0, ne_of_none hb hR0, e0 _ _ hb, rfl, upd_same, trivial, by simp, leapt0⟩ (fun i σ H' _ ⟨_, _, _, _, _, _, _, _, _, _, _, _, _, e, _⟩ => SqL.of (e _ _ hpl)) ?_ ?_⟩
    · rintro i y σ H' H2 hi ⟨c, v1, v2, v3, v4, v5, v6, v7, rd, v, L, ts, rfl, e, cR, hc, vl, hL, eL, Ll, eq⟩ ⟨T0, x, z, rfl, hT0, rfl, hx, hz⟩
      cases hx
      obtain ⟨t, ht, rfl⟩ := map_get hz
      obtain ⟨pc, hpc, hP⟩ := ep.get ht
      have hip : i < p.pieces.length := by
        rw [List.length_map, ep.length] at hi
        exact hi
      have i5 : i < 5 := by have := ok.few; omega
      have okp : GoodP p.counters pc := ok.each pc (List.mem_of_getElem? hpc)
      have hdrop : p.pieces.zipIdx.drop i = (pc, i) :: p.pieces.zipIdx.drop (i + 1) := by
        have h1 : i < p.pieces.zipIdx.length := by rw [List.length_zipIdx]; exact hip
        rw [List.drop_eq_getElem_cons h1, List.getElem_zipIdx]
        congr 2
        · obtain ⟨h2, h3⟩ := List.getElem?_eq_some_iff.mp hpc
          exact h3
        · omega
      rw [hdrop] at eq
      have eq1 : Vaacle.leapt p s = leapFrom (p.pieces.zipIdx.drop (i + 1)) (shift i rd L (leapPiece 0 ⟨.over, 0, v, []⟩ pc)) := by
        rw [eq]
        show leapFrom _ (leapPiece i ⟨.over, rd, v, L⟩ pc) = _
        rw [leapPiece_shift]
      have e2 : Same H' (upd H' T0 (.tup [.int (i : Nat), .ref t])) := (Same.refl H').new hT0
      have e02 := e.trans e2
      refine ⟨T0, _, rfl, SqT.of upd_same, rfl, _, _, rfl, _, _, rfl, rfl, ?_⟩
      refine ⟨_, rfl, _, rfl, t, c, pc, v, rfl, PieceAt.same hP e02, hc.same e2, by rw [vl, hs]; exact okp, by omega, fun H3 t3 r3 q3 y hy e3 nt3 nr3 hq3 ht3 hl3 hv3 yl yll => ?_⟩
      rw [← hy] at eq1
      have e03 := e02.trans e3
      have hL3 := e3 _ _ (e2 _ _ hL)
      have r3R : r3 ≠ R := (ne_of_none (e2 _ _ hL) nr3).symm
      have q3R : q3 ≠ R := by
        rcases hq3 with rfl | h
        · exact cR
        · exact (ne_of_none (e2 _ _ hL) h).symm
      obtain ⟨us, hus, eus⟩ := hl3
      refine ⟨t3, _, rfl, SqT.of ht3, rfl, _, _, rfl, _, _, rfl, _, _, rfl, _, _, rfl, rfl, ?_⟩
      refine ⟨_, rfl, _, rfl, _, _, rfl, rfl, ?_⟩
      have tl : ts.length = L.length := eL.length
      refine ⟨_, rfl, r3, rfl, ⟨_, SqL.of hus⟩, for_list (K := K) (a := r3) (xs := us.map V.ref) (fun j σ H4 => ∃ (v6 v7 : Option V) (ws : List Addr), σ = [some (.ref a), some (.ref q3), some (.int ((rd : Int) + (y.rounds : Nat))), some (.ref R), some (.int (i : Nat)), some (.ref t), some (.int (howTold y.how)), some (.int (y.rounds : Nat)), some (.ref r3), v6, v7] ∧
          Same H H4 ∧ IsI H4 q3 y.values ∧ H4 r3 = some (.lst (us.map V.ref)) ∧ Each (fun t x => t ≠ R ∧ ∃ pa : Addr, pa ≠ R ∧ H4 t = some (.tup [.ref pa, .int (VaaclBase.orNone x.times)]) ∧ IsI H4 pa (nats x.pattern) ∧ x.pattern.length ≤ 3) us y.leaps ∧
          H4 R = some (.lst (ws.map V.ref)) ∧ Each (LeapB R H4) ws (L ++ (y.leaps.take j).map fun z => ⟨i, z.pattern, z.times⟩))
        ⟨_, _, ts, rfl, e03, hv3, hus, ?_, hL3, by rw [List.take_zero, List.map_nil, List.append_nil]; exact eL.mono fun _ _ z => z.but fun b o _ h => e3 b o (e2 b o h)⟩ (fun i σ H' _ ⟨_, _, _, _, _, _, h, _⟩ => SqL.of h) ?_ ?_⟩
      · exact eus.mono fun u x ⟨h1, pa, h2, h3, h4, h5⟩ => ⟨(ne_of_none (e2 _ _ hL) h1).symm, pa, (ne_of_none (e2 _ _ hL) h2).symm, h3, h4, h5⟩
      · rintro j y1 σ H4 hj ⟨v6', v7', ws, rfl, e4, hq4, hr4, eu4, hR4, eW⟩
        obtain ⟨u, hu, rfl⟩ := map_get hj
        obtain ⟨x, hx, uR, pa, paR, hU, hpa, plen⟩ := eu4.get hu
        have wl : ws.length ≤ 100 := by
          rw [eW.length, List.length_append, List.length_map, List.length_take]
          omega
        refine ⟨u, _, rfl, SqT.of hU, rfl, _, _, rfl, _, _, rfl, rfl, ?_⟩
        refine ⟨_, rfl, .inl ⟨rfl, _, SqL.of hR4⟩, _, rfl, _, rfl, _, rfl, by show 3 ≤ sizeLine; decide, fun T hT => ?_⟩
        have RT : R ≠ T := ne_of_none hR4 hT
        have e5 : Same H4 (upd H4 T (.tup [.int (i : Nat), .ref pa, .int (VaaclBase.orNone x.times)])) := (Same.refl H4).new hT
        refine ⟨R, _, _, rfl, rfl, e5 _ _ hR4, by rw [List.length_map]; exact sizeOk (by omega), ?_⟩
        have but : ∀ b o, b ≠ R → H4 b = some o → (upd (upd H4 T (.tup [.int (i : Nat), .ref pa, .int (VaaclBase.orNone x.times)])) R (.lst (ws.map V.ref ++ [.ref T]))) b = some o := fun b o hb h => (upd_ne hb).trans (e5 _ _ h)
        refine ⟨_, _, ws ++ [T], rfl, (e4.trans e5).put hR0, but _ _ q3R hq4, but _ _ r3R hr4, eu4.mono fun t x ⟨h1, pa, h2, h3, h4, h5⟩ => ⟨h1, pa, h2, but _ _ h1 h3, but _ _ h2 h4, h5⟩, by rw [upd_same, List.map_append]; rfl, ?_⟩
        rw [take_more hx, List.map_append, ← List.append_assoc]
        exact Each.snoc ⟨RT.symm, pa, paR, (upd_ne RT.symm).trans upd_same, but _ _ paR hpa, plen⟩ (eW.mono fun _ _ z => z.but but)
      · rintro σ H4 ⟨v6', v7', ws, rfl, e4, hq4, hr4, eu4, hR4, eW⟩
        rw [List.length_map, eus.length, List.take_length] at eW
        have lens : (L ++ y.leaps.map fun z => (⟨i, z.pattern, z.times⟩ : Leap)).length ≤ 12 * (i + 1) := by
          rw [List.length_append, List.length_map]
          omega
        refine ⟨_, rfl, _, _, rfl, rfl, _, rfl, ?_⟩
        have rdE : (rd : Int) + ((y.rounds : Nat) : Int) = ((rd + y.rounds : Nat) : Int) := by omega
        by_cases ch : y.how = .over
        · refine fls (neF (by rw [ch]; rfl)) ?_
          refine ⟨q3, some (.int (i : Nat)), some (.ref t), some (.int (howTold y.how)), some (.int (y.rounds : Nat)), some (.ref r3), v6', v7', rd + y.rounds, y.values, L ++ y.leaps.map fun z => ⟨i, z.pattern, z.times⟩, ws, by rw [rdE], e4, q3R, hq4, by omega, hR4, eW, lens, ?_⟩
          rw [eq1]
          show leapFrom _ (⟨y.how, rd + y.rounds, y.values, L ++ y.leaps.map fun z => ⟨i, z.pattern, z.times⟩⟩ : Leapt) = _
          rw [ch]
        · have stop := leapFrom_stop (y := shift i rd L y) ch (p.pieces.zipIdx.drop (i + 1))
          rw [stop] at eq1
          refine tru (neT (fun h => ch (by
            cases hh : y.how with
            | over => rfl
            | beyond => rw [hh] at h; exact absurd h (by decide)
            | never => rw [hh] at h; exact absurd h (by decide)
            | many => rw [hh] at h; exact absurd h (by decide)))) ⟨_, rfl, _, rfl, _, rfl, _, rfl, by show 4 ≤ sizeLine; decide, fun u hu => ?_⟩
          have e6 : Same H4 (upd H4 u (.tup [.int (howTold y.how), .int ((rd : Int) + (y.rounds : Nat)), .ref R, .ref q3])) := (Same.refl H4).new hu
          refine k _ u R q3 _ eq1.symm (e4.trans e6) (e4.free hu) ?_ ⟨ws, e6 _ _ hR4, eW.mono fun _ _ z => (z.but fun b o _ h => e6 b o h).one⟩ (hq4.same e6) (by show y.values.length = _; omega) (by show (L ++ y.leaps.map fun z => (⟨i, z.pattern, z.times⟩ : Leap)).length ≤ 60; omega)
          rw [upd_same, rdE]
          rfl
    · rintro σ H' ⟨c, v1, v2, v3, v4, v5, v6, v7, rd, v, L, ts, rfl, e, cR, hc, vl, hL, eL, Ll, eq⟩
      have hlen : (ps.map V.ref).length = p.pieces.length := by rw [List.length_map, ep.length]
      rw [hlen] at eq Ll
      rw [List.drop_of_length_le (by rw [List.length_zipIdx]; exact Nat.le_refl _)] at eq
      have few := ok.few
      refine ⟨_, rfl, _, rfl, _, rfl, by show 4 ≤ sizeLine; decide, fun u hu => ?_⟩
      have e6 : Same H' (upd H' u (.tup [.int 0, .int (rd : Nat), .ref R, .ref c])) := (Same.refl H').new hu
      exact k _ u R c ⟨.over, rd, v, L⟩ eq.symm (e.trans e6) (e.free hu) upd_same ⟨ts, e6 _ _ hL, eL.mono fun _ _ z => (z.but fun b o _ h => e6 b o h).one⟩ (hc.same e6) vl (by show L.length ≤ 60; omega)
end
end Lp
namespace Lp
open PySem PySem.Spec PyProof.Rows L2
open VaaclBase (Values Out runLoop runPiece runFrom howNumber)
open Vaacle (moveOf)
theorem runLoop_none {l : LoopT} {v : Values} (h : VaaclBase.chosen l v = none) (m k : Nat) : runLoop l m v k = ⟨.over, v, k⟩ := by
  cases m with
  | zero =>
    show (match VaaclBase.chosen l v with | none => (⟨.over, v, k⟩ : Out) | some _ => ⟨.long, v, k⟩) = _
    rw [h]
  | succ m =>
    show (match VaaclBase.chosen l v with | none => (⟨.over, v, k⟩ : Out) | some i => if VaaclBase.isBeyond (VaaclBase.moved (VaaclBase.branchAt l i).move v) then ⟨.beyond, VaaclBase.moved (VaaclBase.branchAt l i).move v, k + 1⟩ else runLoop l m (VaaclBase.moved (VaaclBase.branchAt l i).move v) (k + 1)) = _
    rw [h]
theorem runLoop_some {l : LoopT} {v : Values} {x : Nat} (h : VaaclBase.chosen l v = some x) (m k : Nat) : runLoop l (m + 1) v k = if VaaclBase.isBeyond (VaaclBase.moved (moveOf l x) v) then ⟨.beyond, VaaclBase.moved (moveOf l x) v, k + 1⟩ else runLoop l m (VaaclBase.moved (moveOf l x) v) (k + 1) := by
  show (match VaaclBase.chosen l v with | none => (⟨.over, v, k⟩ : Out) | some i => if VaaclBase.isBeyond (VaaclBase.moved (VaaclBase.branchAt l i).move v) then ⟨.beyond, VaaclBase.moved (VaaclBase.branchAt l i).move v, k + 1⟩ else runLoop l m (VaaclBase.moved (VaaclBase.branchAt l i).move v) (k + 1)) = _
  rw [h]
  rfl
theorem runFrom_stop {o : Out} (h : o.how ≠ .over) : ∀ l : List PieceT, runFrom 2000 l o = o
  | [] => rfl
  | p :: r => by
    show (match o.how with | .over => runFrom 2000 r (runPiece 2000 o p) | _ => o) = o
    cases e : o.how with
    | over => exact absurd e h
    | _ => rfl
section
variable {P : Program} {w : World} {K : PySem.W.Frag} {mg : Str → Option Value} {base : Heap}
/-! ## run_loop -/
abbrev sRunLoop : Stmt := top 41
theorem scRunLoop : FnScope ["branches", "values", "left", "done", "at"] ["branches", "values", "left"] (defScope sRunLoop) := ⟨rfl, rfl, rfl, by decide +kernel, rfl, by decide +kernel, by decide +kernel⟩
/-- three of a run: how, rounds, values -/
def OutAt (H : Hp) (t : Addr) (o : Out) : Prop := ∃ q : Addr, H t = some (.tup [.int (howNumber o.how), .int (o.rounds : Nat), .ref q]) ∧ IsI H q o.values
def spRunLoop : Sp := fun vs H Q _ => ∃ (a b : Addr) (l : LoopT) (s : Values) (left : Nat), vs = [.ref a, .ref b, .int (left : Nat)] ∧ LoopAt H a l ∧ IsI H b s ∧ GoodL s.length l ∧ s.length ≤ 4 ∧ left ≤ 2000 ∧
  ∀ (H' : Hp) (t : Addr), Same H H' → OutAt H' t (runLoop l left s 0) → (runLoop l left s 0).values.length = s.length → Q (.ref t) H'
theorem ok_run_loop (G : NamesOf mg) {f1 f2 f3 : Addr} {d1 d2 d3 : FuncData} (DChosen : Def P w K mg base CX0 3 "chosen" ["branches", "values"] spChosen f1 d1)
    (DBranchMoved : Def P w K mg base CX0 2 "branch_moved" ["branches", "at", "values"] spBranchMoved f2 d2) (DIsBeyond : Def P w K mg base CX0 1 "is_beyond" ["values"] spIsBeyond f3 d3)
    {f : Addr} {fd : FuncData} (F : Fun K "run_loop" "run_loop" sRunLoop f fd) : FnOk P w K mg base CX0 4 f fd ["branches", "values", "left"] spRunLoop := by
  refine F.ok scRunLoop (fun vs H Q E h => ?_) (fun cdv A outer s H vs Q E hr h => ⟨_, pss_cons (ps_for PassesOwn.never rfl (pi_range1 rfl G.range (pa_cons (pv 2) pa_nil)) (pg_name (i := 3) scRunLoop.nd rfl (.inl rfl)) (pss_cons (ps_set (i := 4) scRunLoop.nd rfl (.inl rfl) (pe_call DChosen.ok (hr.mono (by decide)) rfl DChosen.m DChosen.kp DChosen.b .nil pass0 (pa_cons (pv 0) (pa_cons (pv 1) pa_nil)))) (pss_cons (ps_if (pt_cmp (pc_lt (pv 4) pe_int)) (pss_one (ps_ret (pe_tup (pa_cons pe_int (pa_cons (pv 3) (pa_cons (pv 1) pa_nil)))))) pss_nil) (pss_cons (ps_set (i := 1) scRunLoop.nd rfl (.inl rfl) (pe_call DBranchMoved.ok (hr.mono (by decide)) rfl DBranchMoved.m DBranchMoved.kp DBranchMoved.b .nil pass0 (pa_cons (pv 0) (pa_cons (pv 4) (pa_cons (pv 1) pa_nil))))) (pss_one (ps_if (pt_val (pe_call DIsBeyond.ok (hr.mono (by decide)) rfl DIsBeyond.m DIsBeyond.kp DIsBeyond.b .nil pass0 (pa_cons (pv 1) pa_nil))) (pss_one (ps_ret (pe_tup (pa_cons pe_int (pa_cons (pe_op op_add (pv 3) pe_int) (pa_cons (pv 1) pa_nil)))))) pss_nil)))))) (pss_cons (ps_if (pt_cmp (pc_lt (pe_call DChosen.ok (hr.mono (by decide)) rfl DChosen.m DChosen.kp DChosen.b .nil pass0 (pa_cons (pv 0) (pa_cons (pv 1) pa_nil))) pe_int)) (pss_one (ps_ret (pe_tup (pa_cons pe_int (pa_cons (pv 2) (pa_cons (pv 1) pa_nil)))))) pss_nil) (pss_one (ps_ret (pe_tup (pa_cons pe_int (pa_cons (pv 2) (pa_cons (pv 1) pa_nil))))))), ?_⟩)
  · obtain ⟨a, b, l, s, left, rfl, _⟩ := h
    rfl
  · obtain ⟨a, b, l, s, left, rfl, ha, hb, ok, h4, hleft, k⟩ := h
    have out : ∀ (H2 : Hp) (kind rd : Int) (c : Addr) (o : Out), kind = howNumber o.how → rd = (o.rounds : Nat) → o = runLoop l left s 0 → Same H H2 → IsI H2 c o.values → o.values.length = s.length → ∀ t : Addr, H2 t = none → Q (.ref t) (upd H2 t (.tup [.int kind, .int rd, .ref c])) := by
      intro H2 kind rd c o hk hrd ho e2 hc vl t ht
      rw [hk, hrd]
      have e3 : Same H2 (upd H2 t (.tup [.int (howNumber o.how), .int (o.rounds : Nat), .ref c])) := (Same.refl H2).new ht
      rw [ho] at e3 hc vl ⊢
      exact k _ t (e2.trans e3) ⟨c, upd_same, hc.same e3⟩ vl
    refine ⟨_, rfl, _, rfl, by omega, by omega, ?_⟩
    rw [Int.toNat_natCast]
    refine for_range (lo := 0) (n := left) (fun i σ H' => ∃ (c : Addr) (v1 v2 : Option V) (v : Values), σ = [some (.ref a), some (.ref c), some (.int (left : Nat)), v1, v2] ∧ Same H H' ∧ IsI H' c v ∧ v.length = s.length ∧ runLoop l left s 0 = runLoop l (left - i) v i)
      ⟨b, none, none, s, rfl, Same.refl H, hb, rfl, rfl⟩ ?_ ?_
    · rintro i σ H' hi ⟨c, v1, v2, v, rfl, e, hc, vl, eq⟩
      refine ⟨_, rfl, _, rfl, a, c, l, v, rfl, ha.same e, hc, by rw [vl]; exact ok, fun H2 e2 => ?_⟩
      refine ⟨_, rfl, _, _, rfl, rfl, _, rfl, ?_⟩
      have e02 := e.trans e2
      cases hch : VaaclBase.chosen l v with
      | none =>
        rw [runLoop_none hch] at eq
        refine tru rfl ⟨_, rfl, _, rfl, by show 3 ≤ sizeLine; decide, fun t ht => ?_⟩
        exact out H2 0 _ c ⟨.over, v, i⟩ rfl (by show (0 : Int) + (i : Nat) = (i : Nat); omega) eq.symm e02 (hc.same e2) vl t ht
      | some x =>
        have hxl := chosen_lt hch
        rw [show left - i = (left - (i + 1)) + 1 by omega, runLoop_some hch] at eq
        have ml : (VaaclBase.moved (moveOf l x) v).length = s.length := by rw [moved_length]; exact (ok.at_ hxl).1.1
        refine fls (decide_eq_false (show ¬ ((x : Nat) : Int) < 0 by omega)) ?_
        refine ⟨_, rfl, _, rfl, _, rfl, a, c, l, x, v, rfl, ha.same e02, hc.same e2, by rw [vl]; exact ok, by omega, hxl, fun H3 q e3 nq hq => ?_⟩
        refine ⟨_, rfl, q, _, rfl, hq, fun H4 e4 => ⟨_, rfl, ?_⟩⟩
        have e04 := (e02.trans e3).trans e4
        cases cb : VaaclBase.isBeyond (VaaclBase.moved (moveOf l x) v) with
        | true =>
          rw [cb, if_pos rfl] at eq
          refine tru rfl ⟨_, rfl, _, _, rfl, rfl, _, rfl, by show 3 ≤ sizeLine; decide, fun t ht => ?_⟩
          exact out H4 1 _ q ⟨.beyond, VaaclBase.moved (moveOf l x) v, i + 1⟩ rfl (by show (0 : Int) + (i : Nat) + 1 = ((i + 1 : Nat) : Int); omega) eq.symm e04 (hq.same e4) ml t ht
        | false =>
          rw [cb, if_neg Bool.false_ne_true] at eq
          exact fls rfl ⟨q, _, _, _, rfl, e04, hq.same e4, ml, eq⟩
    · rintro σ H' ⟨c, v1, v2, v, rfl, e, hc, vl, eq⟩
      rw [Nat.sub_self] at eq
      refine ⟨_, rfl, _, rfl, a, c, l, v, rfl, ha.same e, hc, by rw [vl]; exact ok, fun H2 e2 => ?_⟩
      refine ⟨_, _, rfl, rfl, _, rfl, ?_⟩
      have e0 : runLoop l 0 v left = match VaaclBase.chosen l v with | none => (⟨.over, v, left⟩ : Out) | some _ => ⟨.long, v, left⟩ := rfl
      rw [e0] at eq
      cases hch : VaaclBase.chosen l v with
      | none =>
        rw [hch] at eq
        refine tru rfl ⟨_, rfl, _, rfl, by show 3 ≤ sizeLine; decide, fun t ht => ?_⟩
        exact out H2 0 _ c ⟨.over, v, left⟩ rfl rfl eq.symm (e.trans e2) (hc.same e2) vl t ht
      | some x =>
        rw [hch] at eq
        refine fls (decide_eq_false (show ¬ ((x : Nat) : Int) < 0 by omega)) ⟨_, rfl, _, rfl, by show 3 ≤ sizeLine; decide, fun t ht => ?_⟩
        exact out H2 2 _ c ⟨.long, v, left⟩ rfl rfl eq.symm (e.trans e2) (hc.same e2) vl t ht
/-! ## run_piece -/
abbrev sRunPiece : Stmt := top 42
theorem scRunPiece : FnScope ["piece", "values", "left", "kind", "move", "branches", "after"] ["piece", "values", "left"] (defScope sRunPiece) := ⟨rfl, rfl, rfl, by decide +kernel, rfl, by decide +kernel, by decide +kernel⟩
def spRunPiece : Sp := fun vs H Q _ => ∃ (a b : Addr) (p : PieceT) (s : Values) (left : Nat), vs = [.ref a, .ref b, .int (left : Nat)] ∧ PieceAt H a p ∧ IsI H b s ∧ GoodP s.length p ∧ s.length ≤ 4 ∧ left ≤ 2000 ∧
  ∀ (H' : Hp) (t : Addr), Same H H' → OutAt H' t (runPiece left ⟨.over, s, 0⟩ p) → (runPiece left ⟨.over, s, 0⟩ p).values.length = s.length → Q (.ref t) H'
theorem ok_run_piece {f1 f2 f3 : Addr} {d1 d2 d3 : FuncData} (DRunLoop : Def P w K mg base CX0 4 "run_loop" ["branches", "values", "left"] spRunLoop f1 d1)
    (DMoved : Def P w K mg base CX0 1 "moved" ["move", "values"] spMoved f2 d2) (DIsBeyond : Def P w K mg base CX0 1 "is_beyond" ["values"] spIsBeyond f3 d3)
    {f : Addr} {fd : FuncData} (F : Fun K "run_piece" "run_piece" sRunPiece f fd) : FnOk P w K mg base CX0 5 f fd ["piece", "values", "left"] spRunPiece := by
  refine F.ok scRunPiece (fun vs H Q E h => ?_) (fun cdv A outer s H vs Q E hr h => ⟨_, pss_cons (ps_asg (pv 0) (pg_tup rfl (pgs_cons (pg_name (i := 3) scRunPiece.nd rfl (.inl rfl)) (pgs_cons (pg_name (i := 4) scRunPiece.nd rfl (.inl rfl)) (pgs_cons (pg_name (i := 5) scRunPiece.nd rfl (.inl rfl)) pgs_nil))))) (pss_cons (ps_if (pt_cmp (pc_eqI (pv 3) pe_int)) (pss_one (ps_ret (pe_call DRunLoop.ok (hr.mono (by decide)) rfl DRunLoop.m DRunLoop.kp DRunLoop.b .nil pass0 (pa_cons (pv 5) (pa_cons (pv 1) (pa_cons (pv 2) pa_nil)))))) pss_nil) (pss_cons (ps_if (pt_cmp (pc_eqI (pv 2) pe_int)) (pss_one (ps_ret (pe_tup (pa_cons pe_int (pa_cons pe_int (pa_cons (pv 1) pa_nil)))))) pss_nil) (pss_cons (ps_set (i := 6) scRunPiece.nd rfl (.inl rfl) (pe_call DMoved.ok (hr.mono (by decide)) rfl DMoved.m DMoved.kp DMoved.b .nil pass0 (pa_cons (pv 4) (pa_cons (pv 1) pa_nil)))) (pss_cons (ps_if (pt_val (pe_call DIsBeyond.ok (hr.mono (by decide)) rfl DIsBeyond.m DIsBeyond.kp DIsBeyond.b .nil pass0 (pa_cons (pv 6) pa_nil))) (pss_one (ps_ret (pe_tup (pa_cons pe_int (pa_cons pe_int (pa_cons (pv 6) pa_nil)))))) pss_nil) (pss_one (ps_ret (pe_tup (pa_cons pe_int (pa_cons pe_int (pa_cons (pv 6) pa_nil)))))))))), ?_⟩)
  · obtain ⟨a, b, p, s, left, rfl, _⟩ := h
    rfl
  · obtain ⟨a, b, p, s, left, rfl, ha, hb, ok, h4, hleft, k⟩ := h
    cases p with
    | loop l =>
      obtain ⟨x, y, hX, hl⟩ := ha
      refine ⟨_, rfl, a, _, rfl, SqT.of hX, rfl, _, _, rfl, _, _, rfl, _, _, rfl, rfl, _, rfl, _, _, rfl, rfl, _, rfl, tru rfl ?_⟩
      exact ⟨_, rfl, _, rfl, _, rfl, y, b, l, s, left, rfl, hl, hb, ok, h4, hleft, fun H' t => k H' t⟩
    | move m =>
      obtain ⟨x, y, hX, hm⟩ := ha
      have ep : runPiece left ⟨.over, s, 0⟩ (.move m) = if left ≤ 0 then (⟨.long, s, 0⟩ : Out) else ⟨if VaaclBase.isBeyond (VaaclBase.moved m s) then .beyond else .over, VaaclBase.moved m s, 0 + 1⟩ := rfl
      rw [ep] at k
      refine ⟨_, rfl, a, _, rfl, SqT.of hX, rfl, _, _, rfl, _, _, rfl, _, _, rfl, rfl, _, rfl, _, _, rfl, rfl, _, rfl, fls rfl ?_⟩
      refine ⟨_, rfl, _, _, rfl, rfl, _, rfl, ?_⟩
      by_cases c0 : left = 0
      · subst c0
        rw [if_pos (Nat.le_refl 0)] at k
        refine tru rfl ⟨_, rfl, by show 3 ≤ sizeLine; decide, fun t ht => ?_⟩
        have e3 : Same H (upd H t (.tup [.int 2, .int 0, .ref b])) := (Same.refl H).new ht
        exact k _ t e3 ⟨b, upd_same, hb.same e3⟩ rfl
      · rw [if_neg (by omega)] at k
        refine fls (decide_eq_false (by omega)) ?_
        refine ⟨_, rfl, _, rfl, x, b, m, s, rfl, hm, hb, ok, h4, fun H1 q e1 nq hq => ?_⟩
        refine ⟨_, rfl, q, _, rfl, hq, fun H2 e2 => ⟨_, rfl, ?_⟩⟩
        have hq2 := hq.same e2
        have ml : (VaaclBase.moved m s).length = s.length := by rw [moved_length]; exact ok.1
        cases cb : VaaclBase.isBeyond (VaaclBase.moved m s) with
        | true =>
          rw [cb] at k
          refine tru rfl ⟨_, rfl, by show 3 ≤ sizeLine; decide, fun t ht => ?_⟩
          have e3 : Same H2 (upd H2 t (.tup [.int 1, .int 1, .ref q])) := (Same.refl H2).new ht
          exact k _ t ((e1.trans e2).trans e3) ⟨q, upd_same, hq2.same e3⟩ ml
        | false =>
          rw [cb] at k
          refine fls rfl ⟨_, rfl, by show 3 ≤ sizeLine; decide, fun t ht => ?_⟩
          have e3 : Same H2 (upd H2 t (.tup [.int 0, .int 1, .ref q])) := (Same.refl H2).new ht
          exact k _ t ((e1.trans e2).trans e3) ⟨q, upd_same, hq2.same e3⟩ ml
/-! ## run_program -/
abbrev sRunProgram : Stmt := top 43
theorem scRunProgram : FnScope ["program", "values", "rounds", "piece", "kind", "more"] ["program", "values"] (defScope sRunProgram) := ⟨rfl, rfl, rfl, by decide +kernel, rfl, by decide +kernel, by decide +kernel⟩
def spRunProgram : Sp := fun vs H Q _ => ∃ (a b : Addr) (p : ProgT) (s : Values), vs = [.ref a, .ref b] ∧ ProgAt H a p ∧ IsI H b s ∧ GoodProg p ∧ s.length = p.counters ∧
  ∀ (H' : Hp) (t : Addr), Same H H' → OutAt H' t (VaaclBase.run p s) → (VaaclBase.run p s).values.length = s.length → Q (.ref t) H'
theorem ok_run_program (G : NamesOf mg) {f1 : Addr} {d1 : FuncData} (DRunPiece : Def P w K mg base CX0 5 "run_piece" ["piece", "values", "left"] spRunPiece f1 d1)
    {f : Addr} {fd : FuncData} (F : Fun K "run_program" "run_program" sRunProgram f fd) : FnOk P w K mg base CX0 6 f fd ["program", "values"] spRunProgram := by
  refine F.ok scRunProgram (fun vs H Q E h => ?_) (fun cdv A outer s H vs Q E hr h => ⟨_, pss_cons (ps_set (i := 2) scRunProgram.nd rfl (.inl rfl) pe_int) (pss_cons (ps_for PassesOwn.never rfl (pi_list (pe_ix ix_tup (pv 0) pe_int (fun _ _ => rfl))) (pg_name (i := 3) scRunProgram.nd rfl (.inl rfl)) (pss_cons (ps_asg (pe_call DRunPiece.ok (hr.mono (by decide)) rfl DRunPiece.m DRunPiece.kp DRunPiece.b .nil pass0 (pa_cons (pv 3) (pa_cons (pv 1) (pa_cons (pe_op op_sub (pe_gint rfl G.MOST_ROUNDS) (pv 2)) pa_nil)))) (pg_tup rfl (pgs_cons (pg_name (i := 4) scRunProgram.nd rfl (.inl rfl)) (pgs_cons (pg_name (i := 5) scRunProgram.nd rfl (.inl rfl)) (pgs_cons (pg_name (i := 1) scRunProgram.nd rfl (.inl rfl)) pgs_nil))))) (pss_cons (ps_aug (i := 2) scRunProgram.nd rfl (.inl rfl) (pv 5) ip_add) (pss_one (ps_if (pt_cmp (pc_neI (pv 4) pe_int)) (pss_one (ps_ret (pe_tup (pa_cons (pv 4) (pa_cons (pv 2) (pa_cons (pv 1) pa_nil)))))) pss_nil))))) (pss_one (ps_ret (pe_tup (pa_cons pe_int (pa_cons (pv 2) (pa_cons (pv 1) pa_nil))))))), ?_⟩)
  · obtain ⟨a, b, p, s, rfl, _⟩ := h
    rfl
  · obtain ⟨a, b, p, s, rfl, ⟨pl, hX, ps, hpl, ep⟩, hb, ok, hs, k⟩ := h
    have n4 := ok.n4
    have run0 : VaaclBase.run p s = runFrom 2000 p.pieces ⟨.over, s, 0⟩ := rfl
    refine ⟨_, rfl, a, _, _, _, rfl, rfl, SqT.of hX, atI_nat (j := 1) rfl, pl, rfl, ⟨_, SqL.of hpl⟩, for_list (K := K) (a := pl) (xs := ps.map V.ref) (fun i σ H' => ∃ (c : Addr) (v1 v2 v3 : Option V) (rd : Nat) (v : Values),
        σ = [some (.ref a), some (.ref c), some (.int (rd : Nat)), v1, v2, v3] ∧ Same H H' ∧ IsI H' c v ∧ v.length = s.length ∧ rd ≤ 2000 ∧ VaaclBase.run p s = runFrom 2000 (p.pieces.drop i) ⟨.over, v, rd⟩)
      ⟨b, none, none, none, 0, s, rfl, Same.refl H, hb, rfl, by omega, run0⟩ (fun i σ H' _ ⟨_, _, _, _, _, _, _, e, _⟩ => SqL.of (e _ _ hpl)) ?_ ?_⟩
    · rintro i y σ H' hi ⟨c, v1, v2, v3, rd, v, rfl, e, hc, vl, hrd, eq⟩
      obtain ⟨t, ht, rfl⟩ := map_get hi
      obtain ⟨pc, hpc, hP⟩ := ep.get ht
      have okp : GoodP p.counters pc := ok.each pc (List.mem_of_getElem? hpc)
      have hdrop : p.pieces.drop i = pc :: p.pieces.drop (i + 1) := by
        obtain ⟨h1, h2⟩ := List.getElem?_eq_some_iff.mp hpc
        rw [← h2]
        exact List.drop_eq_getElem_cons h1
      rw [hdrop] at eq
      obtain ⟨lt1, le1⟩ := runPiece_later 2000 rd v pc hrd
      have eq1 : VaaclBase.run p s = runFrom 2000 (p.pieces.drop (i + 1)) (later rd (runPiece (2000 - rd) ⟨.over, v, 0⟩ pc)) := by
        rw [eq]
        show runFrom 2000 _ (runPiece 2000 ⟨.over, v, rd⟩ pc) = _
        rw [lt1]
      refine ⟨_, rfl, _, rfl, _, rfl, _, _, rfl, rfl, t, c, pc, v, 2000 - rd, ?_, PieceAt.same hP e, hc, by rw [vl, hs]; exact okp, by omega, by omega, fun H2 t2 e2 ⟨q, ht2, hq⟩ yl => ?_⟩
      · dsimp only
        rw [show (2000 : Int) - (rd : Nat) = ((2000 - rd : Nat) : Int) by omega]
        rfl
      generalize runPiece (2000 - rd) ⟨.over, v, 0⟩ pc = o at eq1 le1 ht2 hq yl
      refine ⟨t2, _, rfl, SqT.of ht2, rfl, _, _, rfl, _, _, rfl, _, _, rfl, rfl, ?_⟩
      refine ⟨_, rfl, _, rfl, _, _, rfl, rfl, ?_⟩
      refine ⟨_, rfl, _, _, rfl, rfl, _, rfl, ?_⟩
      have rdE : (rd : Int) + ((o.rounds : Nat) : Int) = ((rd + o.rounds : Nat) : Int) := by omega
      by_cases ch : o.how = .over
      · refine fls (neF (by rw [ch]; rfl)) ⟨q, some (.ref t), some (.int (howNumber o.how)), some (.int (o.rounds : Nat)), rd + o.rounds, o.values, by rw [← rdE]; rfl, e.trans e2, hq, by omega, by omega, ?_⟩
        rw [eq1]
        show runFrom _ _ (⟨o.how, o.values, rd + o.rounds⟩ : Out) = _
        rw [ch]
      · rw [runFrom_stop (o := later rd o) ch] at eq1
        refine tru (neT (fun h => ch (by
          cases hh : o.how with
          | over => rfl
          | beyond => rw [hh] at h; exact absurd h (by decide)
          | long => rw [hh] at h; exact absurd h (by decide)))) ⟨_, rfl, _, rfl, _, rfl, by show 3 ≤ sizeLine; decide, fun u hu => ?_⟩
        have e3 : Same H2 (upd H2 u (.tup [.int (howNumber o.how), .int ((rd : Int) + (o.rounds : Nat)), .ref q])) := (Same.refl H2).new hu
        rw [eq1] at k
        refine k _ u ((e.trans e2).trans e3) ⟨q, ?_, hq.same e3⟩ (by show o.values.length = _; omega)
        rw [upd_same]
        show some (HO.tup [V.int (howNumber o.how), V.int ((rd : Int) + (o.rounds : Nat)), V.ref q]) = some (HO.tup [V.int (howNumber o.how), V.int ((rd + o.rounds : Nat) : Int), V.ref q])
        rw [rdE]
    · rintro σ H' ⟨c, v1, v2, v3, rd, v, rfl, e, hc, vl, hrd, eq⟩
      rw [show (ps.map V.ref).length = p.pieces.length by rw [List.length_map, ep.length], List.drop_length] at eq
      refine ⟨_, rfl, _, rfl, by show 3 ≤ sizeLine; decide, fun u hu => ?_⟩
      have e3 : Same H' (upd H' u (.tup [.int 0, .int (rd : Nat), .ref c])) := (Same.refl H').new hu
      rw [eq] at k
      exact k _ u (e.trans e3) ⟨c, upd_same, hc.same e3⟩ vl
end
end Lp
namespace Lp
open PySem PySem.Spec PyProof.Rows L2
open VaaclBase (Values)
open Vaacle (Leapt howTold boxOf sameEnd foundTold)
/-! ## Boxes, in plain words -/
def oneMore (lo : Int) (w : Nat) (g : Values) : List Values := (List.range w).map fun (k : Nat) => g ++ [lo + (k : Int)]
def longerM (lo : Int) (w : Nat) (X : List Values) : List Values := X.flatMap (oneMore lo w)
theorem longerM_length (lo : Int) (w : Nat) : ∀ X : List Values, (longerM lo w X).length = X.length * w
  | [] => by simp [longerM]
  | g :: r => by
    show (oneMore lo w g ++ longerM lo w r).length = _
    rw [List.length_append, longerM_length lo w r]
    unfold oneMore
    rw [List.length_map, List.length_range, List.length_cons, Nat.add_mul]
    omega
theorem longerM_cons (lo : Int) (w : Nat) (v : Int) : ∀ X : List Values, longerM lo w (X.map fun s => v :: s) = (longerM lo w X).map fun s => v :: s
  | [] => rfl
  | g :: r => by
    show oneMore lo w (v :: g) ++ longerM lo w (r.map fun s => v :: s) = (oneMore lo w g ++ longerM lo w r).map fun s => v :: s
    rw [List.map_append, longerM_cons lo w v r]
    congr 1
    unfold oneMore
    rw [List.map_map]
    rfl
theorem longerM_append (lo : Int) (w : Nat) (X Y : List Values) : longerM lo w (X ++ Y) = longerM lo w X ++ longerM lo w Y := List.flatMap_append
theorem boxOf_more (lo hi : Int) : ∀ n : Nat, boxOf lo hi (n + 1) = longerM lo (hi - lo + 1).toNat (boxOf lo hi n)
  | 0 => by
    show (List.range (hi - lo + 1).toNat).flatMap (fun (k : Nat) => [[]].map fun s => (lo + (k : Int)) :: s) = oneMore lo (hi - lo + 1).toNat [] ++ []
    rw [List.append_nil]
    unfold oneMore
    generalize (hi - lo + 1).toNat = w
    rw [List.flatMap_def, show (fun (k : Nat) => List.map (fun s => (lo + (k : Int)) :: s) [([] : Values)]) = fun (k : Nat) => [[lo + (k : Int)]] from rfl]
    induction List.range w with
    | nil => rfl
    | cons a r ih =>
      rw [List.map_cons, List.flatten_cons, ih, List.map_cons]
      rfl
  | n + 1 => by
    show (List.range (hi - lo + 1).toNat).flatMap (fun (k : Nat) => (boxOf lo hi (n + 1)).map fun s => (lo + (k : Int)) :: s) = longerM lo _ ((List.range (hi - lo + 1).toNat).flatMap fun (k : Nat) => (boxOf lo hi n).map fun s => (lo + (k : Int)) :: s)
    rw [boxOf_more lo hi n]
    generalize (hi - lo + 1).toNat = w
    induction List.range w with
    | nil => rfl
    | cons a r ih =>
      rw [List.flatMap_cons, List.flatMap_cons, longerM_append, ih, longerM_cons]
theorem boxOf_length (lo hi : Int) : ∀ n : Nat, (boxOf lo hi n).length = (hi - lo + 1).toNat ^ n
  | 0 => rfl
  | n + 1 => by rw [boxOf_more, longerM_length, boxOf_length lo hi n, Nat.pow_succ]
theorem longerM_each (lo : Int) (w n : Nat) : ∀ X : List Values, (∀ x ∈ X, x.length = n) → ∀ x ∈ longerM lo w X, x.length = n + 1 := by
  intro X h x hx
  unfold longerM at hx
  obtain ⟨g, hg, hx⟩ := List.mem_flatMap.mp hx
  unfold oneMore at hx
  obtain ⟨k, _, rfl⟩ := List.mem_map.mp hx
  rw [List.length_append, h g hg]
  rfl
theorem boxOf_each (lo hi : Int) : ∀ (n : Nat), ∀ x ∈ boxOf lo hi n, x.length = n
  | 0, x, h => by
    rw [List.mem_singleton.mp h]
    rfl
  | n + 1, x, h => by
    rw [boxOf_more] at h
    exact longerM_each lo _ n _ (boxOf_each lo hi n) x h
/-! ## All but one list as it was -/
def But (r : Addr) (H H' : Hp) : Prop := ∀ b o, b ≠ r → H b = some o → H' b = some o
theorem But.refl (r : Addr) (H : Hp) : But r H H := fun _ _ _ h => h
theorem But.same {r : Addr} {H H1 H2 : Hp} (e : But r H H1) (f : Same H1 H2) : But r H H2 := fun b o hb h => f b o (e b o hb h)
theorem But.put {r : Addr} {H H1 : Hp} {o : HO} (e : But r H H1) : But r H (upd H1 r o) := fun b o hb h => (upd_ne hb).trans (e b o hb h)
/-- lists of whole numbers, all new since H0 -/
def NewRows (H0 H : Hp) (r : Addr) (X : List Values) : Prop := ∃ ts : List Addr, H r = some (.lst (ts.map V.ref)) ∧ Each (fun t x => H0 t = none ∧ IsI H t x) ts X
section
variable {P : Program} {w : World} {K : PySem.W.Frag} {mg : Str → Option Value} {base : Heap}
/-! ## longer -/
abbrev sLonger : Stmt := top 45
theorem scLonger : FnScope ["inputs", "lo", "hi", "rows", "given", "value"] ["inputs", "lo", "hi"] (defScope sLonger) := ⟨rfl, rfl, rfl, by decide +kernel, rfl, by decide +kernel, by decide +kernel⟩
def spLonger : Sp := fun vs H Q _ => ∃ (a : Addr) (lo hi : Int) (X : List Values), vs = [.ref a, .int lo, .int hi] ∧ ListAt IsI H a X ∧ -1000000 ≤ lo ∧ lo ≤ hi ∧ hi ≤ 1000000 ∧ X.length * (hi - lo + 1).toNat ≤ 16 ∧ (∀ x ∈ X, x.length ≤ 4) ∧
  ∀ (H' : Hp) (r : Addr), Same H H' → H r = none → NewRows H H' r (longerM lo (hi - lo + 1).toNat X) → Q (.ref r) H'
theorem ok_longer (G : NamesOf mg) {f : Addr} {fd : FuncData} (F : Fun K "longer" "longer" sLonger f fd) : FnOk P w K mg base CX0 1 f fd ["inputs", "lo", "hi"] spLonger := by
  refine F.ok scLonger (fun vs H Q E h => ?_) (fun cdv A outer s H vs Q E hr h => ⟨_, pss_cons (ps_set (i := 3) scLonger.nd rfl (.inl rfl) (pe_lst pa_nil)) (pss_cons (ps_for PassesOwn.never rfl (pi_list (pv 0)) (pg_name (i := 4) scLonger.nd rfl (.inl rfl)) (pss_one (ps_for PassesOwn.never rfl (pi_range2 rfl G.range (pa_cons (pv 1) (pa_cons (pe_op op_add (pv 2) pe_int) pa_nil))) (pg_name (i := 5) scLonger.nd rfl (.inl rfl)) (pss_one (ps_expr (pe_bm PySem.F.plainAttrs_list PySem.F.slot_list_append PySem.F.type_list_append mt_append (pv 3) (pa_cons (pe_op op_cat (pv 4) (pe_lst (pa_cons (pv 5) pa_nil))) pa_nil))))))) (pss_one (ps_ret (pv 3)))), ?_⟩)
  · obtain ⟨a, lo, hi, X, rfl, _⟩ := h
    rfl
  · obtain ⟨a, lo, hi, X, rfl, ⟨ts, ha, et⟩, hlo, hlh, hhi, few, hX4, k⟩ := h
    generalize hw : (hi - lo + 1).toNat = wd at few k
    refine ⟨by show 0 ≤ sizeLine; decide, fun r hr0 => ?_⟩
    have e0 : Same H (upd H r (.lst [])) := (Same.refl H).new hr0
    refine ⟨_, rfl, a, rfl, ⟨_, SqL.of (e0 _ _ ha)⟩, for_list (K := K) (a := a) (xs := ts.map V.ref) (fun i σ H' => ∃ (v1 v2 : Option V) (us : List Addr), σ = [some (.ref a), some (.int lo), some (.int hi), some (.ref r), v1, v2] ∧ Same H H' ∧ H' r = some (.lst (us.map V.ref)) ∧
        Each (fun t x => t ≠ r ∧ H t = none ∧ IsI H' t x) us (longerM lo wd (X.take i)))
      ⟨none, none, [], rfl, e0, upd_same, trivial⟩ (fun i σ H' _ ⟨_, _, _, _, e, _⟩ => SqL.of (e _ _ ha)) ?_ ?_⟩
    · rintro i y σ H' hi' ⟨v1, v2, us, rfl, e, hL, eu⟩
      obtain ⟨t, ht, rfl⟩ := map_get hi'
      obtain ⟨g, hg, hG⟩ := et.get ht
      have g4 := hX4 g (List.mem_of_getElem? hg)
      have hiX : i < X.length := (List.getElem?_eq_some_iff.mp hg).1
      have tk : longerM lo wd (X.take (i + 1)) = longerM lo wd (X.take i) ++ oneMore lo wd g := by
        rw [take_more hg, longerM_append]
        congr 1
        show oneMore lo wd g ++ [] = _
        rw [List.append_nil]
      have bound : (longerM lo wd (X.take i)).length + wd ≤ 16 := by
        rw [longerM_length, List.length_take, Nat.min_eq_left (by omega)]
        have : (i + 1) * wd ≤ X.length * wd := Nat.mul_le_mul_right wd hiX
        rw [Nat.add_mul] at this
        omega
      refine ⟨_, rfl, _, rfl, _, _, rfl, rfl, _, _, rfl, ⟨by omega, by omega, by omega, by omega⟩, ?_⟩
      rw [show (hi + 1 - lo).toNat = wd by omega]
      refine for_range (lo := lo) (n := wd) (fun j σ H2 => ∃ (v2 : Option V) (ws : List Addr), σ = [some (.ref a), some (.int lo), some (.int hi), some (.ref r), some (.ref t), v2] ∧ Same H H2 ∧ H2 r = some (.lst (ws.map V.ref)) ∧
          Each (fun t x => t ≠ r ∧ H t = none ∧ IsI H2 t x) ws (longerM lo wd (X.take i) ++ (List.range j).map fun (k : Nat) => g ++ [lo + (k : Int)]))
        ⟨_, us, rfl, e, hL, by rw [List.range_zero, List.map_nil, List.append_nil]; exact eu⟩ ?_ ?_
      · rintro j σ H2 hj ⟨v2', ws, rfl, e2, hL2, ew⟩
        have wl : ws.length ≤ 16 := by
          rw [ew.length, List.length_append, List.length_map, List.length_range]
          omega
        have hG2 := hG.same e2
        refine ⟨_, rfl, .inl ⟨rfl, _, SqL.of hL2⟩, _, rfl, _, rfl, by show 1 ≤ sizeLine; decide, fun p hp => ?_⟩
        have e3 : Same H2 (upd H2 p (.lst [.int (lo + (j : Int))])) := (Same.refl H2).new hp
        refine ⟨t, p, _, _, rfl, rfl, hG2.same e3, upd_same, by rw [List.length_map]; exact sizeOk' (by show g.length + 1 ≤ 100000; omega), fun q hq => ?_⟩
        have e4 : Same H2 (upd (upd H2 p (.lst [.int (lo + (j : Int))])) q (.lst (g.map V.int ++ [.int (lo + (j : Int))]))) := e3.new hq
        have rq : r ≠ q := ne_of_none (e3 _ _ hL2) hq
        have nq : H q = none := e2.free (e3.free hq)
        refine ⟨r, _, _, rfl, rfl, e4 _ _ hL2, by rw [List.length_map]; exact sizeOk (by omega), _, ws ++ [q], rfl, (e2.trans e4).put hr0, by rw [upd_same, List.map_append]; rfl, ?_⟩
        rw [List.range_succ, List.map_append, ← List.append_assoc]
        refine Each.snoc ⟨rq.symm, nq, ?_⟩ (ew.mono fun u x ⟨h1, h2, h3⟩ => ⟨h1, h2, (upd_ne h1).trans (e4 _ _ h3)⟩)
        unfold IsI
        rw [upd_ne rq.symm, upd_same, List.map_append]
        rfl
      · rintro σ H2 ⟨v2', ws, rfl, e2, hL2, ew⟩
        refine ⟨_, _, ws, rfl, e2, hL2, ?_⟩
        rw [tk]
        exact ew
    · rintro σ H' ⟨v1, v2, us, rfl, e, hL, eu⟩
      rw [List.length_map, et.length, List.take_length] at eu
      exact ⟨_, rfl, k H' r e hr0 ⟨us, hL, eu.mono fun _ _ z => z.2⟩⟩
/-! ## box -/
abbrev sBox : Stmt := top 46
theorem scBox : FnScope ["counters", "lo", "hi", "inputs", "j"] ["counters", "lo", "hi"] (defScope sBox) := ⟨rfl, rfl, rfl, by decide +kernel, rfl, by decide +kernel, by decide +kernel⟩
def spBox : Sp := fun vs H Q _ => ∃ (n : Nat) (lo hi : Int), vs = [.int (n : Nat), .int lo, .int hi] ∧ n ≤ 4 ∧ -1000000 ≤ lo ∧ lo ≤ hi ∧ hi ≤ 1000000 ∧ (hi - lo + 1).toNat ^ n ≤ 16 ∧
  ∀ (H' : Hp) (r : Addr), Same H H' → H r = none → NewRows H H' r (boxOf lo hi n) → Q (.ref r) H'
theorem ok_box (G : NamesOf mg) {f1 : Addr} {d1 : FuncData} (DLonger : Def P w K mg base CX0 1 "longer" ["inputs", "lo", "hi"] spLonger f1 d1)
    {f : Addr} {fd : FuncData} (F : Fun K "box" "box" sBox f fd) : FnOk P w K mg base CX0 2 f fd ["counters", "lo", "hi"] spBox := by
  refine F.ok scBox (fun vs H Q E h => ?_) (fun cdv A outer s H vs Q E hr h => ⟨_, pss_cons (ps_set (i := 3) scBox.nd rfl (.inl rfl) (pe_lst (pa_cons (pe_lst pa_nil) pa_nil))) (pss_cons (ps_for PassesOwn.never rfl (pi_range1 rfl G.range (pa_cons (pv 0) pa_nil)) (pg_name (i := 4) scBox.nd rfl (.inl rfl)) (pss_one (ps_set (i := 3) scBox.nd rfl (.inl rfl) (pe_call DLonger.ok (hr.mono (by decide)) rfl DLonger.m DLonger.kp DLonger.b .nil pass0 (pa_cons (pv 3) (pa_cons (pv 1) (pa_cons (pv 2) pa_nil))))))) (pss_one (ps_ret (pv 3)))), ?_⟩)
  · obtain ⟨n, lo, hi, rfl, _⟩ := h
    rfl
  · obtain ⟨n, lo, hi, rfl, n4, hlo, hlh, hhi, few, k⟩ := h
    have w1 : 1 ≤ (hi - lo + 1).toNat := by omega
    refine ⟨by show 0 ≤ sizeLine; decide, fun p hp => ⟨by show 1 ≤ sizeLine; decide, fun r hr0 => ?_⟩⟩
    have e1 : Same H (upd H p (.lst [])) := (Same.refl H).new hp
    have hp1 : (upd H p (.lst [])) p = some (.lst []) := upd_same
    have pr : p ≠ r := ne_of_none hp1 hr0
    refine ⟨_, rfl, _, rfl, by omega, by omega, ?_⟩
    rw [Int.toNat_natCast]
    refine for_range (lo := 0) (n := n) (fun i σ H' => ∃ (c : Addr) (v1 : Option V), σ = [some (.int (n : Nat)), some (.int lo), some (.int hi), some (.ref c), v1] ∧ Same H H' ∧ H c = none ∧ NewRows H H' c (boxOf lo hi i))
      ⟨r, none, rfl, e1.new hr0, e1.free hr0, [p], upd_same, ⟨hp, (upd_ne pr).trans hp1⟩, trivial⟩ ?_ ?_
    · rintro i σ H' hi' ⟨c, v1, rfl, e, nc, ts, hc, et⟩
      refine ⟨_, rfl, _, rfl, _, rfl, c, lo, hi, boxOf lo hi i, rfl, ⟨ts, hc, et.mono fun _ _ z => z.2⟩, hlo, hlh, hhi, ?_, fun x hx => by rw [boxOf_each lo hi i x hx]; omega, fun H2 q e2 nq ⟨us, hq, eu⟩ => ?_⟩
      · rw [boxOf_length, ← Nat.pow_succ]
        exact Nat.le_trans (Nat.pow_le_pow_right w1 hi') few
      · refine ⟨q, _, rfl, e.trans e2, e.free nq, us, hq, ?_⟩
        rw [boxOf_more]
        exact eu.mono fun _ _ z => ⟨e.free z.1, z.2⟩
    · rintro σ H' ⟨c, v1, rfl, e, nc, hc⟩
      exact ⟨_, rfl, k H' c e nc hc⟩
/-! ## same -/
abbrev sSame : Stmt := top 47
theorem scSame : FnScope ["first", "second", "values", "kind", "rounds", "leaps", "after", "kind2", "rounds2", "leaps2", "after2"] ["first", "second", "values"] (defScope sSame) := ⟨rfl, rfl, rfl, by decide +kernel, rfl, by decide +kernel, by decide +kernel⟩
def sameNumber : Option Bool → Int
  | none => 2
  | some true => 1
  | some false => 0
def spSame : Sp := fun vs H Q _ => ∃ (a b c : Addr) (p q : ProgT) (s : Values), vs = [.ref a, .ref b, .ref c] ∧ ProgAt H a p ∧ ProgAt H b q ∧ IsI H c s ∧ GoodProg p ∧ GoodProg q ∧ s.length = p.counters ∧ q.counters = p.counters ∧
  ∀ H' : Hp, Same H H' → Q (.int (sameNumber (sameEnd (Vaacle.leapt p s) (Vaacle.leapt q s)))) H'
theorem how_three (h : Vaacle.How) : howTold h = 3 ↔ h = .many := by cases h <;> decide
theorem how_two (h : Vaacle.How) : howTold h = 2 ↔ h = .never := by cases h <;> decide
theorem how_zero (h : Vaacle.How) : howTold h = 0 ↔ h = .over := by cases h <;> decide
theorem how_inj {h g : Vaacle.How} : howTold h = howTold g ↔ h = g := by cases h <;> cases g <;> decide
theorem ok_same {f1 : Addr} {d1 : FuncData} (DLeapProgram : Def P w K mg base CX0 11 "leap_program" ["program", "values"] spLeapProgram f1 d1)
    {f : Addr} {fd : FuncData} (F : Fun K "same" "same" sSame f fd) : FnOk P w K mg base CX0 12 f fd ["first", "second", "values"] spSame := by
  refine F.ok scSame (fun vs H Q E h => ?_) (fun cdv A outer s H vs Q E hr h => ⟨_, pss_cons (ps_asg (pe_call DLeapProgram.ok (hr.mono (by decide)) rfl DLeapProgram.m DLeapProgram.kp DLeapProgram.b .nil pass0 (pa_cons (pv 0) (pa_cons (pv 2) pa_nil))) (pg_tup rfl (pgs_cons (pg_name (i := 3) scSame.nd rfl (.inl rfl)) (pgs_cons (pg_name (i := 4) scSame.nd rfl (.inl rfl)) (pgs_cons (pg_name (i := 5) scSame.nd rfl (.inl rfl)) (pgs_cons (pg_name (i := 6) scSame.nd rfl (.inl rfl)) pgs_nil)))))) (pss_cons (ps_asg (pe_call DLeapProgram.ok (hr.mono (by decide)) rfl DLeapProgram.m DLeapProgram.kp DLeapProgram.b .nil pass0 (pa_cons (pv 1) (pa_cons (pv 2) pa_nil))) (pg_tup rfl (pgs_cons (pg_name (i := 7) scSame.nd rfl (.inl rfl)) (pgs_cons (pg_name (i := 8) scSame.nd rfl (.inl rfl)) (pgs_cons (pg_name (i := 9) scSame.nd rfl (.inl rfl)) (pgs_cons (pg_name (i := 10) scSame.nd rfl (.inl rfl)) pgs_nil)))))) (pss_cons (ps_if (PW.pt (pw_or (pt_cmp (pc_eqI (pv 3) pe_int)) (pw_or1 (pt_cmp (pc_eqI (pv 7) pe_int))))) (pss_one (ps_ret pe_int)) pss_nil) (pss_cons (ps_if (pt_cmp (pc_neI (pv 3) (pv 7))) (pss_one (ps_ret pe_int)) pss_nil) (pss_cons (ps_if (PW.pt (pw_or (pt_cmp (pc_eqI (pv 3) pe_int)) (pw_or1 (pt_cmpR (op_eqD hr.units) (pv 6) (pv 10) (nomark _))))) (pss_one (ps_ret pe_int)) pss_nil) (pss_one (ps_ret pe_int)))))), ?_⟩)
  · obtain ⟨a, b, c, p, q, s, rfl, _⟩ := h
    rfl
  · obtain ⟨a, b, c, p, q, s, rfl, ha, hb, hc, okp, okq, hs, hqp, k⟩ := h
    refine ⟨_, rfl, _, rfl, a, c, p, s, rfl, ha, hc, okp, hs, fun H1 t1 r1 q1 y hy e1 n1 ht1 _ hv1 _ _ => ?_⟩
    rw [← hy] at k
    refine ⟨t1, _, rfl, SqT.of ht1, rfl, _, _, rfl, _, _, rfl, _, _, rfl, _, _, rfl, rfl, ?_⟩
    refine ⟨_, rfl, _, rfl, b, c, q, s, rfl, ProgAt.same hb e1, hc.same e1, okq, by omega, fun H2 t2 r2 q2 z hz e2 n2 ht2 _ hv2 _ _ => ?_⟩
    rw [← hz] at k
    have k := k H2 (e1.trans e2)
    unfold sameEnd at k
    have hv1' := hv1.same e2
    refine ⟨t2, _, rfl, SqT.of ht2, rfl, _, _, rfl, _, _, rfl, _, _, rfl, _, _, rfl, rfl, ?_⟩
    refine ⟨_, rfl, _, _, rfl, rfl, _, rfl, ?_⟩
    by_cases c1 : y.how = .many
    · rw [if_pos (.inl c1)] at k
      exact tru (decide_eq_true ((how_three _).mpr c1)) (tru rfl k)
    · refine fls (decide_eq_false (fun h => c1 ((how_three _).mp h))) ⟨_, rfl, _, _, rfl, rfl, _, rfl, ?_⟩
      by_cases c2 : z.how = .many
      · rw [if_pos (.inr c2)] at k
        exact tru (decide_eq_true ((how_three _).mpr c2)) k
      · rw [if_neg (fun h => h.elim c1 c2)] at k
        refine fls (decide_eq_false (fun h => c2 ((how_three _).mp h))) ⟨_, rfl, _, rfl, _, _, rfl, rfl, _, rfl, ?_⟩
        by_cases c3 : y.how = z.how
        · rw [show (y.how == z.how) = true from beq_iff_eq.mpr c3, Bool.true_and] at k
          refine fls (neF (how_inj.mpr c3)) ⟨_, rfl, _, _, rfl, rfl, _, rfl, ?_⟩
          by_cases c4 : y.how = .never
          · rw [show (y.how == .never) = true from beq_iff_eq.mpr c4, Bool.true_or] at k
            exact tru (decide_eq_true ((how_two _).mpr c4)) (tru rfl k)
          · rw [show (y.how == .never) = false from beq_eq_false_iff_ne.mpr c4, Bool.false_or] at k
            refine fls (decide_eq_false (fun h => c4 ((how_two _).mp h))) ?_
            refine ⟨_, rfl, _, rfl, _, _, hv1'.dp, hv2.dp, shaped_ints _, shaped_ints _, _, rfl, ?_⟩
            rw [show PyData.eqv (.list (dataI y.values)) (.list (dataI z.values)) = (y.values == z.values) from eqv_ints _ _]
            cases hv : (y.values == z.values) with
            | true =>
              rw [hv] at k
              exact tru rfl k
            | false =>
              rw [hv] at k
              exact fls rfl k
        · rw [show (y.how == z.how) = false from beq_eq_false_iff_ne.mpr c3, Bool.false_and] at k
          exact tru (neT (fun h => c3 (how_inj.mp h))) k
/-! ## first_of -/
abbrev sFirstOf : Stmt := top 48
theorem scFirstOf : FnScope ["found"] ["found"] (defScope sFirstOf) := ⟨rfl, rfl, rfl, by decide +kernel, rfl, by decide +kernel, by decide +kernel⟩
def spFirstOf : Sp := fun vs H Q _ => ∃ (a : Addr) (X : List Values), vs = [.ref a] ∧ ListAt IsI H a X ∧ (∀ x ∈ X, x.length ≤ 4) ∧ ∀ (H' : Hp) (r : Addr), Same H H' → H r = none → IsI H' r (foundTold X.head?) → Q (.ref r) H'
theorem ok_first_of (G : NamesOf mg) {f : Addr} {fd : FuncData} (F : Fun K "first_of" "first_of" sFirstOf f fd) : FnOk P w K mg base CX0 1 f fd ["found"] spFirstOf := by
  refine F.ok scFirstOf (fun vs H Q E h => ?_) (fun cdv A outer s H vs Q E hr h => ⟨_, pss_cons (ps_if (pt_cmp (pc_eqI (pe_callB call_len_seq (by rfl) G.len PySem.boot_len (pa_cons (pv 0) pa_nil)) pe_int)) (pss_one (ps_ret (pe_lst (pa_cons pe_int pa_nil)))) pss_nil) (pss_one (ps_ret (pe_op op_cat (pe_lst (pa_cons pe_int pa_nil)) (pe_ix ix_list (pv 0) pe_int (fun _ _ => rfl))))), ?_⟩)
  · obtain ⟨a, X, rfl, _⟩ := h
    rfl
  · obtain ⟨a, X, rfl, ⟨ts, ha, et⟩, h4, k⟩ := h
    refine ⟨_, rfl, a, _, rfl, .inl (SqL.of ha), _, _, rfl, rfl, _, rfl, ?_⟩
    have hl : ts.length = X.length := et.length
    cases X with
    | nil =>
      refine tru (decide_eq_true (by rw [List.length_map, hl]; rfl)) ⟨by show 1 ≤ sizeLine; decide, fun r hr0 => ?_⟩
      exact k _ r ((Same.refl H).new hr0) hr0 upd_same
    | cons x X =>
      obtain ⟨t, ht, hT⟩ := et.back (i := 0) (b := x) rfl
      have htr : (ts.map V.ref)[0]? = some (.ref t) := by
        rw [List.getElem?_map, ht]
        rfl
      refine fls (decide_eq_false (by rw [List.length_map, hl, List.length_cons]; omega)) ⟨by show 1 ≤ sizeLine; decide, fun p hp => ?_⟩
      have e1 : Same H (upd H p (.lst [.int 1])) := (Same.refl H).new hp
      refine ⟨_, rfl, a, _, _, _, rfl, rfl, SqL.of (e1 _ _ ha), atI_nat (j := 0) htr, p, t, _, _, rfl, rfl, upd_same, e1 _ _ hT, by rw [List.length_map]; exact sizeOk' (by have := h4 x List.mem_cons_self; show 1 + x.length ≤ 100000; omega), fun r hr0 => ?_⟩
      refine k _ r (e1.new hr0) (e1.free hr0) ?_
      unfold IsI
      rw [upd_same]
      rfl
end
end Lp
namespace Lp
open PySem PySem.Spec PyProof.Rows L2
open VaaclBase (Values)
open Vaacle (Leapt howTold boxOf sameEnd foundTold)
/-- a box that may be asked about -/
structure GoodBox (n : Nat) (lo hi : Int) : Prop where
  l : -1000000 ≤ lo
  lh : lo ≤ hi
  h : hi ≤ 1000000
  few : (hi - lo + 1).toNat ^ n ≤ 16
theorem GoodBox.len {n : Nat} {lo hi : Int} (g : GoodBox n lo hi) : (boxOf lo hi n).length ≤ 16 := by
  rw [boxOf_length]
  exact g.few
def apartM (se : Values → Option Bool) (l : List Values) : List Int := ((l.countP fun v => se v == none : Nat) : Int) :: foundTold (l.filter fun v => se v == some false).head?
def endsM (f : Values → Bool) (l : List Values) : List Int := (((l.filter f).length : Nat) : Int) :: foundTold (l.filter f).head?
/-- a turn of longest's loop -/
def longTurn (f : Values → Leapt) (o : Option (Nat × Values)) (v : Values) : Option (Nat × Values) := if (f v).how = .over ∧ (∀ b, o = some b → b.1 < (f v).rounds) then some ((f v).rounds, v) else o
def longestM (f : Values → Leapt) (l : List Values) : List Int := match l.foldl (longTurn f) none with
  | none => [0]
  | some b => 1 :: ((b.1 : Nat) : Int) :: b.2
def countsM (f : Values → Leapt) (l : List Values) : List Int := [((l.countP fun v => (f v).how == .over : Nat) : Int), ((l.countP fun v => (f v).how == .beyond : Nat) : Int), ((l.countP fun v => (f v).how == .never : Nat) : Int), ((l.countP fun v => (f v).how == .many : Nat) : Int)]
theorem take_foldl {A B : Type} (f : B → A → B) (b : B) {l : List A} {i : Nat} {x : A} (h : l[i]? = some x) : (l.take (i + 1)).foldl f b = f ((l.take i).foldl f b) x := by
  rw [take_more h, List.foldl_append]
  rfl
theorem take_countP {A : Type} (f : A → Bool) {l : List A} {i : Nat} {x : A} (h : l[i]? = some x) : (l.take (i + 1)).countP f = (l.take i).countP f + if f x = true then 1 else 0 := by
  rw [take_more h, List.countP_append, List.countP_singleton]
theorem take_filter {A : Type} (f : A → Bool) {l : List A} {i : Nat} {x : A} (h : l[i]? = some x) : (l.take (i + 1)).filter f = (l.take i).filter f ++ if f x = true then [x] else [] := by
  rw [take_more h, List.filter_append]
  congr 1
  cases hf : f x <;> simp [hf]
section
variable {P : Program} {w : World} {K : PySem.W.Frag} {mg : Str → Option Value} {base : Heap}
/-! ## apart -/
abbrev sApart : Stmt := top 49
theorem scApart : FnScope ["first", "second", "lo", "hi", "unknown", "found", "values", "told"] ["first", "second", "lo", "hi"] (defScope sApart) := ⟨rfl, rfl, rfl, by decide +kernel, rfl, by decide +kernel, by decide +kernel⟩
def spApart : Sp := fun vs H Q _ => ∃ (a b : Addr) (lo hi : Int) (p q : ProgT), vs = [.ref a, .ref b, .int lo, .int hi] ∧ ProgAt H a p ∧ ProgAt H b q ∧ GoodProg p ∧ GoodProg q ∧ q.counters = p.counters ∧ GoodBox p.counters lo hi ∧
  ∀ (H' : Hp) (r : Addr), Same H H' → H r = none → IsI H' r (apartM (fun v => sameEnd (Vaacle.leapt p v) (Vaacle.leapt q v)) (boxOf lo hi p.counters)) → Q (.ref r) H'
theorem ok_apart {f1 f2 f3 : Addr} {d1 d2 d3 : FuncData} (DBox : Def P w K mg base CX0 2 "box" ["counters", "lo", "hi"] spBox f1 d1) (DSame : Def P w K mg base CX0 12 "same" ["first", "second", "values"] spSame f2 d2)
    (DFirstOf : Def P w K mg base CX0 1 "first_of" ["found"] spFirstOf f3 d3)
    {f : Addr} {fd : FuncData} (F : Fun K "apart" "apart" sApart f fd) : FnOk P w K mg base CX0 13 f fd ["first", "second", "lo", "hi"] spApart := by
  refine F.ok scApart (fun vs H Q E h => ?_) (fun cdv A outer s H vs Q E hr h => ⟨_, pss_cons (ps_set (i := 4) scApart.nd rfl (.inl rfl) pe_int) (pss_cons (ps_set (i := 5) scApart.nd rfl (.inl rfl) (pe_lst pa_nil)) (pss_cons (ps_for PassesOwn.never rfl (pi_list (pe_call DBox.ok (hr.mono (by decide)) rfl DBox.m DBox.kp DBox.b .nil pass0 (pa_cons (pe_ix ix_tup (pv 0) pe_int (fun _ _ => rfl)) (pa_cons (pv 2) (pa_cons (pv 3) pa_nil))))) (pg_name (i := 6) scApart.nd rfl (.inl rfl)) (pss_cons (ps_set (i := 7) scApart.nd rfl (.inl rfl) (pe_call DSame.ok (hr.mono (by decide)) rfl DSame.m DSame.kp DSame.b .nil pass0 (pa_cons (pv 0) (pa_cons (pv 1) (pa_cons (pv 6) pa_nil))))) (pss_cons (ps_if (pt_cmp (pc_eqI (pv 7) pe_int)) (pss_one (ps_aug (i := 4) scApart.nd rfl (.inl rfl) pe_int ip_add)) pss_nil) (pss_one (ps_if (pt_cmp (pc_eqI (pv 7) pe_int)) (pss_one (ps_expr (pe_bm PySem.F.plainAttrs_list PySem.F.slot_list_append PySem.F.type_list_append mt_append (pv 5) (pa_cons (pv 6) pa_nil)))) pss_nil))))) (pss_one (ps_ret (pe_op op_cat (pe_lst (pa_cons (pv 4) pa_nil)) (pe_call DFirstOf.ok (hr.mono (by decide)) rfl DFirstOf.m DFirstOf.kp DFirstOf.b .nil pass0 (pa_cons (pv 5) pa_nil))))))), ?_⟩)
  · obtain ⟨a, b, lo, hi, p, q, rfl, _⟩ := h
    rfl
  · obtain ⟨a, b, lo, hi, p, q, rfl, ha, hb, okp, okq, hqp, gb, k⟩ := h
    obtain ⟨pa, hXa, hpa⟩ := id ha
    refine ⟨by show 0 ≤ sizeLine; decide, fun R hR0 => ?_⟩
    have e0 : Same H (upd H R (.lst [])) := (Same.refl H).new hR0
    refine ⟨_, rfl, a, _, _, _, rfl, rfl, SqT.of (e0 _ _ hXa), atI_nat (j := 0) rfl, _, rfl, _, rfl, p.counters, lo, hi, rfl, okp.n4, gb.l, gb.lh, gb.h, gb.few, fun H1 bx e1 nbx ⟨ts, hbx, et⟩ => ?_⟩
    have hR1 : H1 R = some (.lst []) := e1 _ _ upd_same
    have bxR : bx ≠ R := (ne_of_none (show (upd H R (.lst [])) R = some (.lst []) from upd_same) nbx).symm
    have blen := gb.len
    have beach := boxOf_each lo hi p.counters
    have n4 := okp.n4
    unfold apartM at k
    generalize boxOf lo hi p.counters = B at et blen beach k
    generalize hse : (fun v => sameEnd (Vaacle.leapt p v) (Vaacle.leapt q v)) = se at k
    have hse' : ∀ v, sameEnd (Vaacle.leapt p v) (Vaacle.leapt q v) = se v := fun v => congrFun hse v
    refine ⟨bx, rfl, ⟨_, SqL.of hbx⟩, for_list (K := K) (a := bx) (xs := ts.map V.ref) (fun i σ H' => ∃ (v1 v2 : Option V) (ws : List Addr), σ = [some (.ref a), some (.ref b), some (.int lo), some (.int hi), some (.int (((B.take i).countP fun v => se v == none : Nat) : Int)), some (.ref R), v1, v2] ∧
        Same H H' ∧ But R H1 H' ∧ H' R = some (.lst (ws.map V.ref)) ∧ Each (fun t x => t ≠ R ∧ IsI H' t x) ws ((B.take i).filter fun v => se v == some false))
      ⟨none, none, [], rfl, e0.trans e1, But.refl R H1, hR1, trivial⟩ (fun i σ H' _ ⟨_, _, _, _, _, e, _⟩ => SqL.of (e _ _ bxR hbx)) ?_ ?_⟩
    · rintro i y σ H' hi' ⟨v1, v2, ws, rfl, e, be, hL, eW⟩
      obtain ⟨t, ht, rfl⟩ := map_get hi'
      obtain ⟨v, hv, nt, hT⟩ := et.get ht
      have tR : t ≠ R := (ne_of_none (show (upd H R (.lst [])) R = some (.lst []) from upd_same) nt).symm
      have hT' : IsI H' t v := be _ _ tR hT
      have vl := beach v (List.mem_of_getElem? hv)
      refine ⟨_, rfl, _, rfl, _, rfl, a, b, t, p, q, v, rfl, ProgAt.same ha e, ProgAt.same hb e, hT', okp, okq, vl, hqp, fun H2 e2 => ?_⟩
      rw [hse']
      have cp := take_countP (fun v => se v == none) hv
      have fl := take_filter (fun v => se v == some false) hv
      have wl : ws.length ≤ 16 := Nat.le_trans (Nat.le_of_eq eW.length) (Nat.le_trans (List.length_filter_le _ _) (Nat.le_trans (List.length_take_le' _ _) blen))
      have eW2 : Each (fun t x => t ≠ R ∧ IsI H2 t x) ws ((B.take i).filter fun v => se v == some false) := eW.mono fun _ _ z => ⟨z.1, z.2.same e2⟩
      refine ⟨_, rfl, _, _, rfl, rfl, _, rfl, ?_⟩
      cases hs : se v with
      | none =>
        refine tru rfl ⟨_, rfl, _, _, rfl, rfl, ?_⟩
        refine ⟨_, rfl, _, _, rfl, rfl, _, rfl, fls rfl ?_⟩
        refine ⟨some (.ref t), some (.int 2), ws, ?_, e.trans e2, be.same e2, e2 _ _ hL, ?_⟩
        · rw [cp, hs]
          rfl
        · rw [fl, hs]
          show Each _ ws (_ ++ [])
          rw [List.append_nil]
          exact eW2
      | some bb =>
        cases bb with
        | true =>
          refine fls rfl ⟨_, rfl, _, _, rfl, rfl, _, rfl, fls rfl ?_⟩
          refine ⟨some (.ref t), some (.int 1), ws, ?_, e.trans e2, be.same e2, e2 _ _ hL, ?_⟩
          · rw [cp, hs]
            rfl
          · rw [fl, hs]
            show Each _ ws (_ ++ [])
            rw [List.append_nil]
            exact eW2
        | false =>
          refine fls rfl ⟨_, rfl, _, _, rfl, rfl, _, rfl, tru rfl ?_⟩
          refine ⟨_, rfl, .inl ⟨rfl, _, SqL.of (e2 _ _ hL)⟩, _, rfl, R, _, _, rfl, rfl, e2 _ _ hL, by rw [List.length_map]; exact sizeOk (by omega), ?_⟩
          refine ⟨some (.ref t), some (.int 0), ws ++ [t], ?_, (e.trans e2).put hR0, (be.same e2).put, by rw [upd_same, List.map_append]; rfl, ?_⟩
          · rw [cp, hs]
            rfl
          · rw [fl, hs]
            show Each _ (ws ++ [t]) (_ ++ [v])
            exact Each.snoc ⟨tR, (upd_ne tR).trans (e2 _ _ hT')⟩ (eW2.mono fun _ _ z => ⟨z.1, (upd_ne z.1).trans z.2⟩)
    · rintro σ H' ⟨v1, v2, ws, rfl, e, be, hL, eW⟩
      rw [List.length_map, et.length, List.take_length] at eW ⊢
      refine ⟨_, rfl, by show 1 ≤ sizeLine; decide, fun p1 hp1 => ?_⟩
      have e2 : Same H' (upd H' p1 (.lst [.int ((B.countP fun v => se v == none : Nat) : Int)])) := (Same.refl H').new hp1
      refine ⟨_, rfl, R, _, rfl, ⟨ws, e2 _ _ hL, eW.mono fun _ _ z => z.2.same e2⟩, fun x hx => by rw [beach x (List.mem_filter.mp hx).1]; exact n4, fun H3 q3 e3 nq3 hq3 => ?_⟩
      refine ⟨p1, q3, _, _, rfl, rfl, e3 _ _ upd_same, hq3, ?_, fun r hr0 => ?_⟩
      · rw [List.length_map]
        refine sizeOk' ?_
        show 1 + _ ≤ 100000
        cases hh : (B.filter fun v => se v == some false).head? with
        | none => show 1 + 1 ≤ 100000; omega
        | some x =>
          have := beach x (List.mem_filter.mp (List.mem_of_mem_head? hh)).1
          show 1 + (x.length + 1) ≤ 100000
          omega
      · refine k _ r ((e.trans (e2.trans e3)).new hr0) ((e.trans (e2.trans e3)).free hr0) ?_
        unfold IsI
        rw [upd_same]
        rfl
/-! ## ends -/
abbrev sEnds : Stmt := top 50
theorem scEnds : FnScope ["program", "lo", "hi", "wanted", "found", "values", "kind", "rounds", "leaps", "after"] ["program", "lo", "hi", "wanted"] (defScope sEnds) := ⟨rfl, rfl, rfl, by decide +kernel, rfl, by decide +kernel, by decide +kernel⟩
def spEnds : Sp := fun vs H Q _ => ∃ (a c : Addr) (lo hi : Int) (p : ProgT) (u : Values), vs = [.ref a, .int lo, .int hi, .ref c] ∧ ProgAt H a p ∧ IsI H c u ∧ GoodProg p ∧ GoodBox p.counters lo hi ∧
  ∀ (H' : Hp) (r : Addr), Same H H' → H r = none → IsI H' r (endsM (fun v => (Vaacle.leapt p v).how == .over && (Vaacle.leapt p v).values == u) (boxOf lo hi p.counters)) → Q (.ref r) H'
theorem ok_ends (G : NamesOf mg) {f1 f2 f3 : Addr} {d1 d2 d3 : FuncData} (DBox : Def P w K mg base CX0 2 "box" ["counters", "lo", "hi"] spBox f1 d1) (DLeapProgram : Def P w K mg base CX0 11 "leap_program" ["program", "values"] spLeapProgram f2 d2)
    (DFirstOf : Def P w K mg base CX0 1 "first_of" ["found"] spFirstOf f3 d3)
    {f : Addr} {fd : FuncData} (F : Fun K "ends" "ends" sEnds f fd) : FnOk P w K mg base CX0 12 f fd ["program", "lo", "hi", "wanted"] spEnds := by
  refine F.ok scEnds (fun vs H Q E h => ?_) (fun cdv A outer s H vs Q E hr h => ⟨_, pss_cons (ps_set (i := 4) scEnds.nd rfl (.inl rfl) (pe_lst pa_nil)) (pss_cons (ps_for PassesOwn.never rfl (pi_list (pe_call DBox.ok (hr.mono (by decide)) rfl DBox.m DBox.kp DBox.b .nil pass0 (pa_cons (pe_ix ix_tup (pv 0) pe_int (fun _ _ => rfl)) (pa_cons (pv 1) (pa_cons (pv 2) pa_nil))))) (pg_name (i := 5) scEnds.nd rfl (.inl rfl)) (pss_cons (ps_asg (pe_call DLeapProgram.ok (hr.mono (by decide)) rfl DLeapProgram.m DLeapProgram.kp DLeapProgram.b .nil pass0 (pa_cons (pv 0) (pa_cons (pv 5) pa_nil))) (pg_tup rfl (pgs_cons (pg_name (i := 6) scEnds.nd rfl (.inl rfl)) (pgs_cons (pg_name (i := 7) scEnds.nd rfl (.inl rfl)) (pgs_cons (pg_name (i := 8) scEnds.nd rfl (.inl rfl)) (pgs_cons (pg_name (i := 9) scEnds.nd rfl (.inl rfl)) pgs_nil)))))) (pss_one (ps_if (PW.pt (pw_and (pt_cmp (pc_eqI (pv 6) pe_int)) (pw_and1 (pt_cmpR (op_eqD hr.units) (pv 9) (pv 3) (nomark _))))) (pss_one (ps_expr (pe_bm PySem.F.plainAttrs_list PySem.F.slot_list_append PySem.F.type_list_append mt_append (pv 4) (pa_cons (pv 5) pa_nil)))) pss_nil)))) (pss_one (ps_ret (pe_op op_cat (pe_lst (pa_cons (pe_callB call_len_seq (by rfl) G.len PySem.boot_len (pa_cons (pv 4) pa_nil)) pa_nil)) (pe_call DFirstOf.ok (hr.mono (by decide)) rfl DFirstOf.m DFirstOf.kp DFirstOf.b .nil pass0 (pa_cons (pv 4) pa_nil)))))), ?_⟩)
  · obtain ⟨a, c, lo, hi, p, u, rfl, _⟩ := h
    rfl
  · obtain ⟨a, c, lo, hi, p, u, rfl, ha, hc, okp, gb, k⟩ := h
    obtain ⟨pa, hXa, hpa⟩ := id ha
    refine ⟨by show 0 ≤ sizeLine; decide, fun R hR0 => ?_⟩
    have e0 : Same H (upd H R (.lst [])) := (Same.refl H).new hR0
    refine ⟨_, rfl, a, _, _, _, rfl, rfl, SqT.of (e0 _ _ hXa), atI_nat (j := 0) rfl, _, rfl, _, rfl, p.counters, lo, hi, rfl, okp.n4, gb.l, gb.lh, gb.h, gb.few, fun H1 bx e1 nbx ⟨ts, hbx, et⟩ => ?_⟩
    have hR1 : H1 R = some (.lst []) := e1 _ _ upd_same
    have bxR : bx ≠ R := (ne_of_none (show (upd H R (.lst [])) R = some (.lst []) from upd_same) nbx).symm
    have blen := gb.len
    have beach := boxOf_each lo hi p.counters
    have n4 := okp.n4
    unfold endsM at k
    generalize boxOf lo hi p.counters = B at et blen beach k
    refine ⟨bx, rfl, ⟨_, SqL.of hbx⟩, for_list (K := K) (a := bx) (xs := ts.map V.ref) (fun i σ H' => ∃ (v1 v2 v3 v4 v5 : Option V) (ws : List Addr), σ = [some (.ref a), some (.int lo), some (.int hi), some (.ref c), some (.ref R), v1, v2, v3, v4, v5] ∧
        Same H H' ∧ But R H1 H' ∧ H' R = some (.lst (ws.map V.ref)) ∧ Each (fun t x => t ≠ R ∧ IsI H' t x) ws ((B.take i).filter fun v => (Vaacle.leapt p v).how == .over && (Vaacle.leapt p v).values == u))
      ⟨none, none, none, none, none, [], rfl, e0.trans e1, But.refl R H1, hR1, trivial⟩ (fun i σ H' _ ⟨_, _, _, _, _, _, _, _, e, _⟩ => SqL.of (e _ _ bxR hbx)) ?_ ?_⟩
    · rintro i y σ H' hi' ⟨v1, v2, v3, v4, v5, ws, rfl, e, be, hL, eW⟩
      obtain ⟨t, ht, rfl⟩ := map_get hi'
      obtain ⟨v, hv, nt, hT⟩ := et.get ht
      have tR : t ≠ R := (ne_of_none (show (upd H R (.lst [])) R = some (.lst []) from upd_same) nt).symm
      have hT' : IsI H' t v := be _ _ tR hT
      have vl := beach v (List.mem_of_getElem? hv)
      refine ⟨_, rfl, _, rfl, a, t, p, v, rfl, ProgAt.same ha e, hT', okp, vl, fun H2 t1 r1 q1 z hz e2 n1 ht1 _ hv1 _ _ => ?_⟩
      have fl := take_filter (fun v => (Vaacle.leapt p v).how == .over && (Vaacle.leapt p v).values == u) hv
      rw [← hz] at fl
      have wl : ws.length ≤ 16 := Nat.le_trans (Nat.le_of_eq eW.length) (Nat.le_trans (List.length_filter_le _ _) (Nat.le_trans (List.length_take_le' _ _) blen))
      have eW2 : Each (fun t x => t ≠ R ∧ IsI H2 t x) ws ((B.take i).filter fun v => (Vaacle.leapt p v).how == .over && (Vaacle.leapt p v).values == u) := eW.mono fun _ _ z => ⟨z.1, z.2.same e2⟩
      have no : (z.how == .over && z.values == u) = false → Each (fun t x => t ≠ R ∧ IsI H2 t x) ws ((B.take (i + 1)).filter fun v => (Vaacle.leapt p v).how == .over && (Vaacle.leapt p v).values == u) := fun hf => by
        rw [fl, hf]
        show Each _ ws (_ ++ [])
        rw [List.append_nil]
        exact eW2
      refine ⟨t1, _, rfl, SqT.of ht1, rfl, _, _, rfl, _, _, rfl, _, _, rfl, _, _, rfl, rfl, ?_⟩
      refine ⟨_, rfl, _, _, rfl, rfl, _, rfl, ?_⟩
      by_cases c1 : z.how = .over
      · refine tru (decide_eq_true ((how_zero _).mpr c1)) ?_
        refine ⟨_, rfl, _, rfl, _, _, hv1.dp, (hc.same (e.trans e2)).dp, shaped_ints _, shaped_ints _, _, rfl, ?_⟩
        rw [show PyData.eqv (.list (dataI z.values)) (.list (dataI u)) = (z.values == u) from eqv_ints _ _]
        have ho : (z.how == .over) = true := beq_iff_eq.mpr c1
        cases hu : (z.values == u) with
        | true =>
          refine tru rfl ⟨_, rfl, .inl ⟨rfl, _, SqL.of (e2 _ _ hL)⟩, _, rfl, R, _, _, rfl, rfl, e2 _ _ hL, by rw [List.length_map]; exact sizeOk (by omega), ?_⟩
          refine ⟨_, _, _, _, _, ws ++ [t], rfl, (e.trans e2).put hR0, (be.same e2).put, by rw [upd_same, List.map_append]; rfl, ?_⟩
          rw [fl, ho, hu]
          show Each _ (ws ++ [t]) (_ ++ [v])
          exact Each.snoc ⟨tR, (upd_ne tR).trans (e2 _ _ hT')⟩ (eW2.mono fun _ _ z => ⟨z.1, (upd_ne z.1).trans z.2⟩)
        | false =>
          exact fls rfl ⟨_, _, _, _, _, ws, rfl, e.trans e2, be.same e2, e2 _ _ hL, no (by rw [ho, hu]; rfl)⟩
      · refine fls (decide_eq_false (fun h => c1 ((how_zero _).mp h))) (fls rfl ⟨_, _, _, _, _, ws, rfl, e.trans e2, be.same e2, e2 _ _ hL, no ?_⟩)
        rw [show (z.how == .over) = false from beq_eq_false_iff_ne.mpr c1, Bool.false_and]
    · rintro σ H' ⟨v1, v2, v3, v4, v5, ws, rfl, e, be, hL, eW⟩
      rw [List.length_map, et.length, List.take_length] at eW
      have wlen := eW.length
      generalize hf : (fun v => (Vaacle.leapt p v).how == .over && (Vaacle.leapt p v).values == u) = fil at k eW wlen
      refine ⟨_, rfl, R, _, rfl, .inl (SqL.of hL), by show 1 ≤ sizeLine; decide, fun p1 hp1 => ?_⟩
      rw [List.length_map, wlen]
      have e2 : Same H' (upd H' p1 (.lst [.int (((B.filter fil).length : Nat) : Int)])) := (Same.refl H').new hp1
      refine ⟨_, rfl, R, _, rfl, ⟨ws, e2 _ _ hL, eW.mono fun _ _ z => z.2.same e2⟩, fun x hx => by rw [beach x (List.mem_filter.mp hx).1]; exact n4, fun H3 q3 e3 nq3 hq3 => ?_⟩
      refine ⟨p1, q3, _, _, rfl, rfl, e3 _ _ upd_same, hq3, ?_, fun r hr0 => ?_⟩
      · rw [List.length_map]
        refine sizeOk' ?_
        show 1 + _ ≤ 100000
        cases hh : (B.filter fil).head? with
        | none => show 1 + 1 ≤ 100000; omega
        | some x =>
          have := beach x (List.mem_filter.mp (List.mem_of_mem_head? hh)).1
          show 1 + (x.length + 1) ≤ 100000
          omega
      · refine k _ r ((e.trans (e2.trans e3)).new hr0) ((e.trans (e2.trans e3)).free hr0) ?_
        unfold IsI
        rw [upd_same]
        rfl
end
end Lp
namespace Lp
open PySem PySem.Spec PyProof.Rows L2
open VaaclBase (Values)
open Vaacle (Leapt howTold boxOf sameEnd foundTold)
section
variable {P : Program} {w : World} {K : PySem.W.Frag} {mg : Str → Option Value} {base : Heap}
/-! ## longest -/
abbrev sLongest : Stmt := top 51
theorem scLongest : FnScope ["program", "lo", "hi", "answer", "most", "values", "kind", "rounds", "leaps", "after"] ["program", "lo", "hi"] (defScope sLongest) := ⟨rfl, rfl, rfl, by decide +kernel, rfl, by decide +kernel, by decide +kernel⟩
def bestMost : Option (Nat × Values) → Int
  | none => -1
  | some b => ((b.1 : Nat) : Int)
def bestList : Option (Nat × Values) → List Int
  | none => [0]
  | some b => 1 :: ((b.1 : Nat) : Int) :: b.2
def spLongest : Sp := fun vs H Q _ => ∃ (a : Addr) (lo hi : Int) (p : ProgT), vs = [.ref a, .int lo, .int hi] ∧ ProgAt H a p ∧ GoodProg p ∧ GoodBox p.counters lo hi ∧
  ∀ (H' : Hp) (r : Addr), Same H H' → H r = none → IsI H' r (longestM (Vaacle.leapt p) (boxOf lo hi p.counters)) → Q (.ref r) H'
theorem ok_longest (G : NamesOf mg) {f1 f2 : Addr} {d1 d2 : FuncData} (DBox : Def P w K mg base CX0 2 "box" ["counters", "lo", "hi"] spBox f1 d1) (DLeapProgram : Def P w K mg base CX0 11 "leap_program" ["program", "values"] spLeapProgram f2 d2)
    {f : Addr} {fd : FuncData} (F : Fun K "longest" "longest" sLongest f fd) : FnOk P w K mg base CX0 12 f fd ["program", "lo", "hi"] spLongest := by
  refine F.ok scLongest (fun vs H Q E h => ?_) (fun cdv A outer s H vs Q E hr h => ⟨_, pss_cons (ps_set (i := 3) scLongest.nd rfl (.inl rfl) (pe_lst (pa_cons pe_int pa_nil))) (pss_cons (ps_set (i := 4) scLongest.nd rfl (.inl rfl) (pe_un un_neg pe_int)) (pss_cons (ps_for PassesOwn.never rfl (pi_list (pe_call DBox.ok (hr.mono (by decide)) rfl DBox.m DBox.kp DBox.b .nil pass0 (pa_cons (pe_ix ix_tup (pv 0) pe_int (fun _ _ => rfl)) (pa_cons (pv 1) (pa_cons (pv 2) pa_nil))))) (pg_name (i := 5) scLongest.nd rfl (.inl rfl)) (pss_cons (ps_asg (pe_call DLeapProgram.ok (hr.mono (by decide)) rfl DLeapProgram.m DLeapProgram.kp DLeapProgram.b .nil pass0 (pa_cons (pv 0) (pa_cons (pv 5) pa_nil))) (pg_tup rfl (pgs_cons (pg_name (i := 6) scLongest.nd rfl (.inl rfl)) (pgs_cons (pg_name (i := 7) scLongest.nd rfl (.inl rfl)) (pgs_cons (pg_name (i := 8) scLongest.nd rfl (.inl rfl)) (pgs_cons (pg_name (i := 9) scLongest.nd rfl (.inl rfl)) pgs_nil)))))) (pss_one (ps_if (PW.pt (pw_and (pt_cmp (pc_eqI (pv 6) pe_int)) (pw_and1 (pt_cmp (pc_gt (pv 7) (pv 4)))))) (pss_cons (ps_set (i := 4) scLongest.nd rfl (.inl rfl) (pv 7)) (pss_one (ps_set (i := 3) scLongest.nd rfl (.inl rfl) (pe_op op_cat (pe_lst (pa_cons pe_int (pa_cons (pv 7) pa_nil))) (pv 5))))) pss_nil)))) (pss_one (ps_ret (pv 3))))), ?_⟩)
  · obtain ⟨a, lo, hi, p, rfl, _⟩ := h
    rfl
  · obtain ⟨a, lo, hi, p, rfl, ha, okp, gb, k⟩ := h
    obtain ⟨pa, hXa, hpa⟩ := id ha
    refine ⟨by show 1 ≤ sizeLine; decide, fun R hR0 => ?_⟩
    have e0 : Same H (upd H R (.lst [.int 0])) := (Same.refl H).new hR0
    refine ⟨_, rfl, _, rfl, a, _, _, _, rfl, rfl, SqT.of (e0 _ _ hXa), atI_nat (j := 0) rfl, _, rfl, _, rfl, p.counters, lo, hi, rfl, okp.n4, gb.l, gb.lh, gb.h, gb.few, fun H1 bx e1 nbx ⟨ts, hbx, et⟩ => ?_⟩
    have blen := gb.len
    have beach := boxOf_each lo hi p.counters
    have n4 := okp.n4
    have kk : ∀ (H' : Hp) (r : Addr), Same H H' → H r = none → IsI H' r (bestList ((boxOf lo hi p.counters).foldl (longTurn (Vaacle.leapt p)) none)) → Q (.ref r) H' := by
      intro H' r e nr h
      refine k H' r e nr ?_
      unfold longestM
      unfold bestList at h
      exact h
    generalize boxOf lo hi p.counters = B at et blen beach kk
    refine ⟨bx, rfl, ⟨_, SqL.of hbx⟩, for_list (K := K) (a := bx) (xs := ts.map V.ref) (fun i σ H' => ∃ (c : Addr) (v1 v2 v3 v4 v5 : Option V), σ = [some (.ref a), some (.int lo), some (.int hi), some (.ref c), some (.int (bestMost ((B.take i).foldl (longTurn (Vaacle.leapt p)) none))), v1, v2, v3, v4, v5] ∧
        Same H1 H' ∧ H c = none ∧ IsI H' c (bestList ((B.take i).foldl (longTurn (Vaacle.leapt p)) none)))
      ⟨R, none, none, none, none, none, rfl, Same.refl H1, hR0, e1 _ _ upd_same⟩ (fun i σ H' _ ⟨_, _, _, _, _, _, _, e, _⟩ => SqL.of (e _ _ hbx)) ?_ ?_⟩
    · rintro i y σ H' hi' ⟨c, v1, v2, v3, v4, v5, rfl, e, nc, hc⟩
      obtain ⟨t, ht, rfl⟩ := map_get hi'
      obtain ⟨v, hv, nt, hT⟩ := et.get ht
      have vl := beach v (List.mem_of_getElem? hv)
      have e01 := (e0.trans e1).trans e
      refine ⟨_, rfl, _, rfl, a, t, p, v, rfl, ProgAt.same ha e01, hT.same e, okp, vl, fun H2 t1 r1 q1 z hz e2 n1 ht1 _ hv1 _ _ => ?_⟩
      have tn := take_foldl (longTurn (Vaacle.leapt p)) none hv
      generalize (B.take i).foldl (longTurn (Vaacle.leapt p)) none = o at tn hc ⊢
      have lt : longTurn (Vaacle.leapt p) o v = if z.how = .over ∧ (∀ b, o = some b → b.1 < z.rounds) then some (z.rounds, v) else o := by
        rw [hz]
        rfl
      rw [lt] at tn
      have most : (bestMost o < ((z.rounds : Nat) : Int)) ↔ ∀ b, o = some b → b.1 < z.rounds := by
        cases o with
        | none =>
          refine ⟨fun _ b hb => (by cases hb), fun _ => ?_⟩
          show (-1 : Int) < (z.rounds : Int)
          omega
        | some b =>
          refine ⟨fun h b' hb => ?_, fun h => ?_⟩
          · cases hb
            change ((b.1 : Nat) : Int) < (z.rounds : Int) at h
            omega
          · have := h b rfl
            show ((b.1 : Nat) : Int) < (z.rounds : Int)
            omega
      refine ⟨t1, _, rfl, SqT.of ht1, rfl, _, _, rfl, _, _, rfl, _, _, rfl, _, _, rfl, rfl, ?_⟩
      refine ⟨_, rfl, _, _, rfl, rfl, _, rfl, ?_⟩
      by_cases c1 : z.how = .over
      · refine tru (decide_eq_true ((how_zero _).mpr c1)) ⟨_, rfl, _, rfl, _, _, rfl, rfl, _, rfl, ?_⟩
        by_cases c2 : bestMost o < ((z.rounds : Nat) : Int)
        · rw [if_pos ⟨c1, most.mp c2⟩] at tn
          refine tru (decide_eq_true c2) ?_
          refine ⟨_, rfl, _, rfl, by show 2 ≤ sizeLine; decide, fun p1 hp1 => ?_⟩
          have e3 : Same H2 (upd H2 p1 (.lst [.int 1, .int (z.rounds : Nat)])) := (Same.refl H2).new hp1
          have hT2 := (hT.same e).same e2
          refine ⟨_, rfl, p1, t, _, _, rfl, rfl, upd_same, e3 _ _ hT2, by rw [List.length_map]; exact sizeOk' (by show 2 + v.length ≤ 100000; omega), fun r hr0 => ?_⟩
          refine ⟨r, some (.ref t), some (.int (howTold z.how)), some (.int (z.rounds : Nat)), some (.ref r1), some (.ref q1), ?_, (e.trans (e2.trans e3)).new hr0, (((e0.trans e1).trans e).trans (e2.trans e3)).free hr0, ?_⟩
          · rw [tn]
            rfl
          · rw [tn]
            unfold IsI
            rw [upd_same]
            rfl
        · rw [if_neg (fun h => c2 (most.mpr h.2))] at tn
          refine fls (decide_eq_false c2) ⟨c, some (.ref t), some (.int (howTold z.how)), some (.int (z.rounds : Nat)), some (.ref r1), some (.ref q1), ?_, e.trans e2, nc, ?_⟩
          · rw [tn]
            rfl
          · rw [tn]
            exact hc.same e2
      · rw [if_neg (fun h => c1 h.1)] at tn
        refine fls (decide_eq_false (fun h => c1 ((how_zero _).mp h))) (fls rfl ⟨c, some (.ref t), some (.int (howTold z.how)), some (.int (z.rounds : Nat)), some (.ref r1), some (.ref q1), ?_, e.trans e2, nc, ?_⟩)
        · rw [tn]
          rfl
        · rw [tn]
          exact hc.same e2
    · rintro σ H' ⟨c, v1, v2, v3, v4, v5, rfl, e, nc, hc⟩
      rw [List.length_map, et.length, List.take_length] at hc
      exact ⟨_, rfl, kk H' c ((e0.trans e1).trans e) nc hc⟩
/-! ## never -/
abbrev sNever : Stmt := top 52
theorem scNever : FnScope ["program", "lo", "hi", "values", "kind", "rounds", "leaps", "after"] ["program", "lo", "hi"] (defScope sNever) := ⟨rfl, rfl, rfl, by decide +kernel, rfl, by decide +kernel, by decide +kernel⟩
def spNever : Sp := fun vs H Q _ => ∃ (a : Addr) (lo hi : Int) (p : ProgT), vs = [.ref a, .int lo, .int hi] ∧ ProgAt H a p ∧ GoodProg p ∧ GoodBox p.counters lo hi ∧
  ∀ (H' : Hp) (r : Addr), Same H H' → H r = none → IsI H' r (foundTold ((boxOf lo hi p.counters).find? fun v => (Vaacle.leapt p v).how == .never)) → Q (.ref r) H'
theorem ok_never {f1 f2 : Addr} {d1 d2 : FuncData} (DBox : Def P w K mg base CX0 2 "box" ["counters", "lo", "hi"] spBox f1 d1) (DLeapProgram : Def P w K mg base CX0 11 "leap_program" ["program", "values"] spLeapProgram f2 d2)
    {f : Addr} {fd : FuncData} (F : Fun K "never" "never" sNever f fd) : FnOk P w K mg base CX0 12 f fd ["program", "lo", "hi"] spNever := by
  refine F.ok scNever (fun vs H Q E h => ?_) (fun cdv A outer s H vs Q E hr h => ⟨_, pss_cons (ps_for PassesOwn.never rfl (pi_list (pe_call DBox.ok (hr.mono (by decide)) rfl DBox.m DBox.kp DBox.b .nil pass0 (pa_cons (pe_ix ix_tup (pv 0) pe_int (fun _ _ => rfl)) (pa_cons (pv 1) (pa_cons (pv 2) pa_nil))))) (pg_name (i := 3) scNever.nd rfl (.inl rfl)) (pss_cons (ps_asg (pe_call DLeapProgram.ok (hr.mono (by decide)) rfl DLeapProgram.m DLeapProgram.kp DLeapProgram.b .nil pass0 (pa_cons (pv 0) (pa_cons (pv 3) pa_nil))) (pg_tup rfl (pgs_cons (pg_name (i := 4) scNever.nd rfl (.inl rfl)) (pgs_cons (pg_name (i := 5) scNever.nd rfl (.inl rfl)) (pgs_cons (pg_name (i := 6) scNever.nd rfl (.inl rfl)) (pgs_cons (pg_name (i := 7) scNever.nd rfl (.inl rfl)) pgs_nil)))))) (pss_one (ps_if (pt_cmp (pc_eqI (pv 4) pe_int)) (pss_one (ps_ret (pe_op op_cat (pe_lst (pa_cons pe_int pa_nil)) (pv 3)))) pss_nil)))) (pss_one (ps_ret (pe_lst (pa_cons pe_int pa_nil)))), ?_⟩)
  · obtain ⟨a, lo, hi, p, rfl, _⟩ := h
    rfl
  · obtain ⟨a, lo, hi, p, rfl, ha, okp, gb, k⟩ := h
    obtain ⟨pa, hXa, hpa⟩ := id ha
    refine ⟨_, rfl, a, _, _, _, rfl, rfl, SqT.of hXa, atI_nat (j := 0) rfl, _, rfl, _, rfl, p.counters, lo, hi, rfl, okp.n4, gb.l, gb.lh, gb.h, gb.few, fun H1 bx e1 nbx ⟨ts, hbx, et⟩ => ?_⟩
    have beach := boxOf_each lo hi p.counters
    have n4 := okp.n4
    generalize boxOf lo hi p.counters = B at et beach k
    refine ⟨bx, rfl, ⟨_, SqL.of hbx⟩, for_list (K := K) (a := bx) (xs := ts.map V.ref) (fun i σ H' => ∃ (v1 v2 v3 v4 v5 : Option V), σ = [some (.ref a), some (.int lo), some (.int hi), v1, v2, v3, v4, v5] ∧
        Same H1 H' ∧ (B.find? fun v => (Vaacle.leapt p v).how == .never) = ((B.drop i).find? fun v => (Vaacle.leapt p v).how == .never))
      ⟨none, none, none, none, none, rfl, Same.refl H1, rfl⟩ (fun i σ H' _ ⟨_, _, _, _, _, _, e, _⟩ => SqL.of (e _ _ hbx)) ?_ ?_⟩
    · rintro i y σ H' hi' ⟨v1, v2, v3, v4, v5, rfl, e, eq⟩
      obtain ⟨t, ht, rfl⟩ := map_get hi'
      obtain ⟨v, hv, nt, hT⟩ := et.get ht
      have vl := beach v (List.mem_of_getElem? hv)
      have hdrop : B.drop i = v :: B.drop (i + 1) := by
        obtain ⟨h1, h2⟩ := List.getElem?_eq_some_iff.mp hv
        rw [← h2]
        exact List.drop_eq_getElem_cons h1
      rw [hdrop, List.find?_cons] at eq
      refine ⟨_, rfl, _, rfl, a, t, p, v, rfl, ProgAt.same ha (e1.trans e), hT.same e, okp, vl, fun H2 t1 r1 q1 z hz e2 n1 ht1 _ hv1 _ _ => ?_⟩
      rw [← hz] at eq
      have hT2 := (hT.same e).same e2
      refine ⟨t1, _, rfl, SqT.of ht1, rfl, _, _, rfl, _, _, rfl, _, _, rfl, _, _, rfl, rfl, ?_⟩
      refine ⟨_, rfl, _, _, rfl, rfl, _, rfl, ?_⟩
      by_cases c1 : z.how = .never
      · rw [show (z.how == .never) = true from beq_iff_eq.mpr c1] at eq
        refine tru (decide_eq_true ((how_two _).mpr c1)) ?_
        refine ⟨by show 1 ≤ sizeLine; decide, fun p1 hp1 => ?_⟩
        have e3 : Same H2 (upd H2 p1 (.lst [.int 1])) := (Same.refl H2).new hp1
        refine ⟨_, rfl, p1, t, _, _, rfl, rfl, upd_same, e3 _ _ hT2, by rw [List.length_map]; exact sizeOk' (by show 1 + v.length ≤ 100000; omega), fun r hr0 => ?_⟩
        refine k _ r (((e1.trans e).trans (e2.trans e3)).new hr0) (((e1.trans e).trans (e2.trans e3)).free hr0) ?_
        rw [eq]
        unfold IsI
        rw [upd_same]
        rfl
      · rw [show (z.how == .never) = false from beq_eq_false_iff_ne.mpr c1] at eq
        exact fls (decide_eq_false (fun h => c1 ((how_two _).mp h))) ⟨_, _, _, _, _, rfl, e.trans e2, eq⟩
    · rintro σ H' ⟨v1, v2, v3, v4, v5, rfl, e, eq⟩
      rw [List.length_map, et.length, List.drop_length] at eq
      refine ⟨by show 1 ≤ sizeLine; decide, fun r hr0 => ?_⟩
      refine k _ r ((e1.trans e).new hr0) ((e1.trans e).free hr0) ?_
      rw [eq]
      exact upd_same
/-! ## counts -/
abbrev sCounts : Stmt := top 53
theorem scCounts : FnScope ["program", "lo", "hi", "many", "values", "kind", "rounds", "leaps", "after"] ["program", "lo", "hi"] (defScope sCounts) := ⟨rfl, rfl, rfl, by decide +kernel, rfl, by decide +kernel, by decide +kernel⟩
def spCounts : Sp := fun vs H Q _ => ∃ (a : Addr) (lo hi : Int) (p : ProgT), vs = [.ref a, .int lo, .int hi] ∧ ProgAt H a p ∧ GoodProg p ∧ GoodBox p.counters lo hi ∧
  ∀ (H' : Hp) (r : Addr), Same H H' → H r = none → IsI H' r (countsM (Vaacle.leapt p) (boxOf lo hi p.counters)) → Q (.ref r) H'
def howNat : Vaacle.How → Nat
  | .over => 0
  | .beyond => 1
  | .never => 2
  | .many => 3
theorem howNat_told (h : Vaacle.How) : howTold h = ((howNat h : Nat) : Int) := by cases h <;> rfl
theorem counts_more (f : Values → Leapt) {B : List Values} {i : Nat} {v : Values} (hv : B[i]? = some v) : ∃ z : Int, ((countsM f (B.take i)).map V.int)[howNat (f v).how]? = some (.int z) ∧ ((countsM f (B.take i)).map V.int).set (howNat (f v).how) (.int (z + 1)) = (countsM f (B.take (i + 1))).map V.int := by
  unfold countsM
  rw [take_countP (fun v => (f v).how == .over) hv, take_countP (fun v => (f v).how == .beyond) hv, take_countP (fun v => (f v).how == .never) hv, take_countP (fun v => (f v).how == .many) hv]
  cases (f v).how with
  | over => exact ⟨_, rfl, rfl⟩
  | beyond => exact ⟨_, rfl, rfl⟩
  | never => exact ⟨_, rfl, rfl⟩
  | many => exact ⟨_, rfl, rfl⟩
theorem ok_counts {f1 f2 : Addr} {d1 d2 : FuncData} (DBox : Def P w K mg base CX0 2 "box" ["counters", "lo", "hi"] spBox f1 d1) (DLeapProgram : Def P w K mg base CX0 11 "leap_program" ["program", "values"] spLeapProgram f2 d2)
    {f : Addr} {fd : FuncData} (F : Fun K "counts" "counts" sCounts f fd) : FnOk P w K mg base CX0 12 f fd ["program", "lo", "hi"] spCounts := by
  refine F.ok scCounts (fun vs H Q E h => ?_) (fun cdv A outer s H vs Q E hr h => ⟨_, pss_cons (ps_set (i := 3) scCounts.nd rfl (.inl rfl) (pe_lst (pa_cons pe_int (pa_cons pe_int (pa_cons pe_int (pa_cons pe_int pa_nil)))))) (pss_cons (ps_for PassesOwn.never rfl (pi_list (pe_call DBox.ok (hr.mono (by decide)) rfl DBox.m DBox.kp DBox.b .nil pass0 (pa_cons (pe_ix ix_tup (pv 0) pe_int (fun _ _ => rfl)) (pa_cons (pv 1) (pa_cons (pv 2) pa_nil))))) (pg_name (i := 4) scCounts.nd rfl (.inl rfl)) (pss_cons (ps_asg (pe_call DLeapProgram.ok (hr.mono (by decide)) rfl DLeapProgram.m DLeapProgram.kp DLeapProgram.b .nil pass0 (pa_cons (pv 0) (pa_cons (pv 4) pa_nil))) (pg_tup rfl (pgs_cons (pg_name (i := 5) scCounts.nd rfl (.inl rfl)) (pgs_cons (pg_name (i := 6) scCounts.nd rfl (.inl rfl)) (pgs_cons (pg_name (i := 7) scCounts.nd rfl (.inl rfl)) (pgs_cons (pg_name (i := 8) scCounts.nd rfl (.inl rfl)) pgs_nil)))))) (pss_one (ps_augS (pv 3) (pv 5) get_list pe_int ip_add set_list)))) (pss_one (ps_ret (pv 3)))), ?_⟩)
  · obtain ⟨a, lo, hi, p, rfl, _⟩ := h
    rfl
  · obtain ⟨a, lo, hi, p, rfl, ha, okp, gb, k⟩ := h
    obtain ⟨pa, hXa, hpa⟩ := id ha
    refine ⟨by show 4 ≤ sizeLine; decide, fun R hR0 => ?_⟩
    have e0 : Same H (upd H R (.lst [.int 0, .int 0, .int 0, .int 0])) := (Same.refl H).new hR0
    refine ⟨_, rfl, a, _, _, _, rfl, rfl, SqT.of (e0 _ _ hXa), atI_nat (j := 0) rfl, _, rfl, _, rfl, p.counters, lo, hi, rfl, okp.n4, gb.l, gb.lh, gb.h, gb.few, fun H1 bx e1 nbx ⟨ts, hbx, et⟩ => ?_⟩
    have hR1 : H1 R = some (.lst [.int 0, .int 0, .int 0, .int 0]) := e1 _ _ upd_same
    have tR : ∀ t : Addr, (upd H R (.lst [.int 0, .int 0, .int 0, .int 0])) t = none → t ≠ R := fun t ht => (ne_of_none (show (upd H R (.lst [.int 0, .int 0, .int 0, .int 0])) R = some _ from upd_same) ht).symm
    have beach := boxOf_each lo hi p.counters
    have n4 := okp.n4
    generalize boxOf lo hi p.counters = B at et beach k
    refine ⟨bx, rfl, ⟨_, SqL.of hbx⟩, for_list (K := K) (a := bx) (xs := ts.map V.ref) (fun i σ H' => ∃ (v1 v2 v3 v4 v5 : Option V), σ = [some (.ref a), some (.int lo), some (.int hi), some (.ref R), v1, v2, v3, v4, v5] ∧
        Same H H' ∧ But R H1 H' ∧ IsI H' R (countsM (Vaacle.leapt p) (B.take i)))
      ⟨none, none, none, none, none, rfl, e0.trans e1, But.refl R H1, hR1⟩ (fun i σ H' _ ⟨_, _, _, _, _, _, _, e, _⟩ => SqL.of (e _ _ (tR _ nbx) hbx)) ?_ ?_⟩
    · rintro i y σ H' hi' ⟨v1, v2, v3, v4, v5, rfl, e, be, hc⟩
      obtain ⟨t, ht, rfl⟩ := map_get hi'
      obtain ⟨v, hv, nt, hT⟩ := et.get ht
      have vl := beach v (List.mem_of_getElem? hv)
      obtain ⟨cz, c1, c2⟩ := counts_more (Vaacle.leapt p) hv
      refine ⟨_, rfl, _, rfl, a, t, p, v, rfl, ProgAt.same ha e, be _ _ (tR _ nt) hT, okp, vl, fun H2 t1 r1 q1 z hz e2 n1 ht1 _ hv1 _ _ => ?_⟩
      rw [← hz] at c1 c2
      refine ⟨t1, _, rfl, SqT.of ht1, rfl, _, _, rfl, _, _, rfl, _, _, rfl, _, _, rfl, rfl, ?_⟩
      have hlt : howNat z.how < 4 := by cases z.how <;> decide
      refine ⟨_, rfl, _, rfl, R, _, howNat z.how, _, rfl, by rw [howNat_told], e2 _ _ hc, c1, by omega, ?_⟩
      refine ⟨_, _, rfl, rfl, R, _, _, howNat z.how, rfl, rfl, e2 _ _ hc, ?_, ?_⟩
      · rw [howNat_told]
        show ixN 4 ((howNat z.how : Nat) : Int) = some (howNat z.how)
        unfold ixN
        rw [if_pos (by omega), if_pos (by omega), Int.toNat_natCast]
      · rw [c2]
        exact ⟨_, _, _, _, _, rfl, (e.trans e2).put hR0, (be.same e2).put, upd_same⟩
    · rintro σ H' ⟨v1, v2, v3, v4, v5, rfl, e, be, hc⟩
      rw [List.length_map, et.length, List.take_length] at hc
      exact ⟨_, rfl, k H' R e hR0 hc⟩
end
end Lp
namespace Lp
open VaaclBase (Values readInt readNat readPair readTimes readListed readGiven readMove readTest readGuard readBranch readLoop readPiece readProgram okTest)
/-! ## The specification's readers, number by number -/
abbrev Rd (A : Type) := List Int → Option (A × List Int)
theorem readInt_some {lo hi z : Int} {x y : List Int} (h : readInt lo hi x = some (z, y)) : x = z :: y ∧ lo ≤ z ∧ z ≤ hi := by
  cases x with
  | nil => cases h
  | cons a r =>
    change (if lo ≤ a ∧ a ≤ hi then some (a, r) else none) = some (z, y) at h
    by_cases c : lo ≤ a ∧ a ≤ hi
    · rw [if_pos c] at h
      cases h
      exact ⟨rfl, c⟩
    · rw [if_neg c] at h
      cases h
theorem readInt_cons {lo hi z : Int} {r : List Int} (h : lo ≤ z ∧ z ≤ hi) : readInt lo hi (z :: r) = some (z, r) := by
  show (if lo ≤ z ∧ z ≤ hi then some (z, r) else none) = _
  rw [if_pos h]
theorem readInt_none {lo hi z : Int} {r : List Int} (h : ¬ (lo ≤ z ∧ z ≤ hi)) : readInt lo hi (z :: r) = none := by
  show (if lo ≤ z ∧ z ≤ hi then some (z, r) else none) = _
  rw [if_neg h]
theorem readNat_eq (lo hi : Nat) (x : List Int) : readNat lo hi x = (readInt (lo : Int) (hi : Int) x).map fun u => (u.1.toNat, u.2) := rfl
/-- what a counter is given -/
def givenSeq (n : Nat) : Rd GivenT := fun x => (readInt 0 1 x).bind fun u => if u.1 = 0 then (readInt (-99) 99 u.2).map fun v => (⟨none, v.1⟩, v.2) else (readInt 0 ((n : Int) - 1) u.2).bind fun c => (readInt (-99) 99 c.2).map fun v => (⟨some c.1.toNat, v.1⟩, v.2)
theorem pair_nat {B : Type} (n : Nat) (hn : 1 ≤ n) (b : Rd B) (x : List Int) : ((readPair (readNat 0 (n - 1)) b) x) = (readInt 0 ((n : Int) - 1) x).bind fun c => (b c.2).map fun v => ((c.1.toNat, v.1), v.2) := by
  unfold readPair
  rw [readNat_eq, show ((n - 1 : Nat) : Int) = (n : Int) - 1 by omega]
  cases readInt ((0 : Nat) : Int) ((n : Int) - 1) x <;> rfl
theorem given_eq {n : Nat} (hn : 1 ≤ n) (x : List Int) : readGiven n x = givenSeq n x := by
  unfold givenSeq
  cases x with
  | nil => rfl
  | cons z r =>
    by_cases h0 : z = 0
    · subst h0
      rw [readInt_cons (by omega)]
      rfl
    · by_cases h1 : z = 1
      · subst h1
        rw [readInt_cons (by omega)]
        show ((readPair (readNat 0 (n - 1)) (readInt (-99) 99)) r).map (fun u => ((⟨some u.1.1, u.1.2⟩ : GivenT), u.2)) = (readInt 0 ((n : Int) - 1) r).bind fun c => (readInt (-99) 99 c.2).map fun v => ((⟨some c.1.toNat, v.1⟩ : GivenT), v.2)
        rw [pair_nat n hn]
        cases readInt 0 ((n : Int) - 1) r with
        | none => rfl
        | some c =>
          show Option.map _ ((readInt (-99) 99 c.2).map _) = _
          rw [Option.map_map]
          rfl
      · rw [readInt_none (by omega)]
        unfold readGiven
        split
        · rename_i h
          rw [List.cons.injEq] at h
          exact absurd h.1 h0
        · rename_i h
          rw [List.cons.injEq] at h
          exact absurd h.1 h1
        · rfl
theorem given_good {n : Nat} {x y : List Int} {g : GivenT} (hn : 1 ≤ n) (h : readGiven n x = some (g, y)) : ∀ j, g.source = some j → j < n := by
  rw [given_eq hn] at h
  unfold givenSeq at h
  rw [Option.bind_eq_some_iff] at h
  obtain ⟨u, hu, h⟩ := h
  by_cases c : u.1 = 0
  · rw [if_pos c, Option.map_eq_some_iff] at h
    obtain ⟨v, _, e⟩ := h
    cases e
    intro j hj
    cases hj
  · rw [if_neg c, Option.bind_eq_some_iff] at h
    obtain ⟨w, hw, h⟩ := h
    rw [Option.map_eq_some_iff] at h
    obtain ⟨v, _, e⟩ := h
    cases e
    intro j hj
    cases hj
    have := (readInt_some (z := w.1) (y := w.2) hw).2
    omega
/-- a row of readings, from behind so many of them -/
theorem readTimes_succ {A : Type} (rd : Rd A) (k : Nat) (x : List Int) : readTimes rd (k + 1) x = (rd x).bind fun u => (readTimes rd k u.2).map fun v => (u.1 :: v.1, v.2) := rfl
theorem times_all {A : Type} {rd : Rd A} {Pr : A → Prop} (hp : ∀ x u y, rd x = some (u, y) → Pr u) : ∀ (k : Nat) (x y : List Int) (us : List A), readTimes rd k x = some (us, y) → us.length = k ∧ ∀ u ∈ us, Pr u
  | 0, x, y, us, h => by
    cases h
    exact ⟨rfl, fun u hu => by cases hu⟩
  | k + 1, x, y, us, h => by
    rw [readTimes_succ, Option.bind_eq_some_iff] at h
    obtain ⟨u, hu, h⟩ := h
    rw [Option.map_eq_some_iff] at h
    obtain ⟨v, hv, e⟩ := h
    cases e
    obtain ⟨h1, h2⟩ := times_all hp k u.2 v.2 v.1 hv
    refine ⟨by rw [List.length_cons, h1], fun w hw => ?_⟩
    rcases List.mem_cons.mp hw with rfl | hw
    · exact hp x u.1 u.2 hu
    · exact h2 w hw
theorem move_good {n : Nat} {x y : List Int} {m : MoveT} (hn : 1 ≤ n) (h : readMove n x = some (m, y)) : OkM n m := by
  have q : ∀ x u y, readGiven n x = some (u, y) → ∀ j, u.source = some j → j < n := fun x u y e => given_good hn e
  exact times_all (rd := readGiven n) (Pr := fun u => ∀ j, u.source = some j → j < n) q n x y m h
/-- a test -/
def testSeq (n : Nat) : Rd TestT := fun x => (readInt 0 3 x).bind fun u => (readInt 0 ((n : Int) - 1) u.2).bind fun c =>
  if u.1 = 2 then (readInt 0 ((n : Int) - 1) c.2).bind fun o => (readInt (-999999) 999999 o.2).map fun v => (.below c.1.toNat o.1.toNat v.1, v.2)
  else if u.1 = 3 then (readInt 2 6 c.2).bind fun m => if m.1 = 5 then none else (readInt 0 (m.1 - 1) m.2).map fun v => (.rem c.1.toNat m.1.toNat v.1.toNat, v.2)
  else (readInt (-999999) 999999 c.2).map fun v => (if u.1 = 0 then .atMost c.1.toNat v.1 else .atLeast c.1.toNat v.1, v.2)
def gotT (n : Nat) (o : Option (TestT × List Int)) : Option (TestT × List Int) := o.bind fun u => if okTest n u.1 then some u else none
theorem test_eq {n : Nat} (hn : 1 ≤ n) (x : List Int) : readTest n x = testSeq n x := by
  unfold testSeq
  cases x with
  | nil => rfl
  | cons z r =>
    by_cases h0 : z = 0
    · subst h0
      rw [readInt_cons (by omega)]
      show gotT n (((readPair (readNat 0 (n - 1)) (readInt (-999999) 999999)) r).map fun u => (VaaclBase.Test.atMost u.1.1 u.1.2, u.2)) = (readInt 0 ((n : Int) - 1) r).bind fun c => (readInt (-999999) 999999 c.2).map fun v => (VaaclBase.Test.atMost c.1.toNat v.1, v.2)
      rw [pair_nat n hn]
      cases hc : readInt 0 ((n : Int) - 1) r with
      | none => rfl
      | some c =>
        have b1 := (readInt_some (z := c.1) (y := c.2) hc).2
        show gotT n (Option.map _ ((readInt (-999999) 999999 c.2).map _)) = (readInt (-999999) 999999 c.2).map _
        cases hv : readInt (-999999) 999999 c.2 with
        | none => rfl
        | some v =>
          have b2 := (readInt_some (z := v.1) (y := v.2) hv).2
          show (if okTest n (.atMost c.1.toNat v.1) = true then some _ else none) = some _
          rw [if_pos]
          unfold okTest
          rw [Bool.and_eq_true, Bool.and_eq_true, decide_eq_true_eq, decide_eq_true_eq, decide_eq_true_eq]
          exact ⟨by omega, b2.1, b2.2⟩
    · by_cases h1 : z = 1
      · subst h1
        rw [readInt_cons (by omega)]
        show gotT n (((readPair (readNat 0 (n - 1)) (readInt (-999999) 999999)) r).map fun u => (VaaclBase.Test.atLeast u.1.1 u.1.2, u.2)) = (readInt 0 ((n : Int) - 1) r).bind fun c => (readInt (-999999) 999999 c.2).map fun v => (VaaclBase.Test.atLeast c.1.toNat v.1, v.2)
        rw [pair_nat n hn]
        cases hc : readInt 0 ((n : Int) - 1) r with
        | none => rfl
        | some c =>
          have b1 := (readInt_some (z := c.1) (y := c.2) hc).2
          show gotT n (Option.map _ ((readInt (-999999) 999999 c.2).map _)) = (readInt (-999999) 999999 c.2).map _
          cases hv : readInt (-999999) 999999 c.2 with
          | none => rfl
          | some v =>
            have b2 := (readInt_some (z := v.1) (y := v.2) hv).2
            show (if okTest n (.atLeast c.1.toNat v.1) = true then some _ else none) = some _
            rw [if_pos]
            unfold okTest
            rw [Bool.and_eq_true, Bool.and_eq_true, decide_eq_true_eq, decide_eq_true_eq, decide_eq_true_eq]
            exact ⟨by omega, b2.1, b2.2⟩
      · by_cases h2 : z = 2
        · subst h2
          rw [readInt_cons (by omega)]
          show gotT n (((readPair (readNat 0 (n - 1)) (readPair (readNat 0 (n - 1)) (readInt (-999999) 999999))) r).map fun u => (VaaclBase.Test.below u.1.1 u.1.2.1 u.1.2.2, u.2)) = (readInt 0 ((n : Int) - 1) r).bind fun c => (readInt 0 ((n : Int) - 1) c.2).bind fun o => (readInt (-999999) 999999 o.2).map fun v => (VaaclBase.Test.below c.1.toNat o.1.toNat v.1, v.2)
          rw [pair_nat n hn]
          cases hc : readInt 0 ((n : Int) - 1) r with
          | none => rfl
          | some c =>
            have b1 := (readInt_some (z := c.1) (y := c.2) hc).2
            show gotT n (Option.map _ (((readPair (readNat 0 (n - 1)) (readInt (-999999) 999999)) c.2).map _)) = (readInt 0 ((n : Int) - 1) c.2).bind _
            rw [pair_nat n hn]
            cases ho : readInt 0 ((n : Int) - 1) c.2 with
            | none => rfl
            | some o =>
              have b3 := (readInt_some (z := o.1) (y := o.2) ho).2
              show gotT n (Option.map _ (Option.map _ ((readInt (-999999) 999999 o.2).map _))) = (readInt (-999999) 999999 o.2).map _
              cases hv : readInt (-999999) 999999 o.2 with
              | none => rfl
              | some v =>
                have b2 := (readInt_some (z := v.1) (y := v.2) hv).2
                show (if okTest n (.below c.1.toNat o.1.toNat v.1) = true then some _ else none) = some _
                rw [if_pos]
                unfold okTest
                rw [Bool.and_eq_true, Bool.and_eq_true, Bool.and_eq_true, decide_eq_true_eq, decide_eq_true_eq, decide_eq_true_eq, decide_eq_true_eq]
                exact ⟨by omega, by omega, b2.1, b2.2⟩
        · by_cases h3 : z = 3
          · subst h3
            rw [readInt_cons (by omega)]
            show gotT n (((readPair (readNat 0 (n - 1)) (readPair (readNat 2 6) (readNat 0 5))) r).map fun u => (VaaclBase.Test.rem u.1.1 u.1.2.1 u.1.2.2, u.2)) =
              (readInt 0 ((n : Int) - 1) r).bind fun c => (readInt 2 6 c.2).bind fun m => if m.1 = 5 then none else (readInt 0 (m.1 - 1) m.2).map fun v => (VaaclBase.Test.rem c.1.toNat m.1.toNat v.1.toNat, v.2)
            rw [pair_nat n hn]
            cases hc : readInt 0 ((n : Int) - 1) r with
            | none => rfl
            | some c =>
              have b1 := (readInt_some (z := c.1) (y := c.2) hc).2
              show gotT n (Option.map _ ((((readInt 2 6 c.2).map fun u => (u.1.toNat, u.2)).bind fun u => (((readInt 0 5 u.2).map fun u => (u.1.toNat, u.2)).map fun v => ((u.1, v.1), v.2))).map _)) = (readInt 2 6 c.2).bind _
              cases hm : readInt 2 6 c.2 with
              | none => rfl
              | some m =>
                have bm := (readInt_some (z := m.1) (y := m.2) hm).2
                show gotT n (Option.map _ (Option.map _ (Option.map _ (Option.map _ (readInt 0 5 m.2))))) = if m.1 = 5 then none else (readInt 0 (m.1 - 1) m.2).map _
                cases hx : m.2 with
                | nil =>
                  show none = _
                  split <;> rfl
                | cons q t =>
                  by_cases b5 : (0 : Int) ≤ q ∧ q ≤ 5
                  · rw [readInt_cons b5]
                    show (if okTest n (.rem c.1.toNat m.1.toNat q.toNat) = true then some _ else none) = _
                    have okm : okTest n (.rem c.1.toNat m.1.toNat q.toNat) = true ↔ (m.1 ≠ 5 ∧ q < m.1) := by
                      unfold okTest
                      rw [Bool.and_eq_true, Bool.and_eq_true, decide_eq_true_eq, decide_eq_true_eq]
                      have mc : VaaclBase.MODULI.contains m.1.toNat = true ↔ m.1 ≠ 5 := by
                        have : m.1 = 2 ∨ m.1 = 3 ∨ m.1 = 4 ∨ m.1 = 5 ∨ m.1 = 6 := by omega
                        rcases this with e | e | e | e | e <;> rw [e] <;> decide
                      rw [mc]
                      constructor
                      · rintro ⟨_, a, b⟩
                        exact ⟨a, by omega⟩
                      · rintro ⟨a, b⟩
                        exact ⟨by omega, a, by omega⟩
                    by_cases m5 : m.1 = 5
                    · rw [if_neg (fun h => (okm.mp h).1 m5), if_pos m5]
                    · rw [if_neg m5]
                      by_cases qm : q < m.1
                      · rw [if_pos (okm.mpr ⟨m5, qm⟩), readInt_cons (by omega)]
                        rfl
                      · rw [if_neg (fun h => qm (okm.mp h).2), readInt_none (by omega)]
                        rfl
                  · rw [readInt_none b5]
                    show none = _
                    split
                    · rfl
                    · rw [readInt_none (by omega)]
                      rfl
          · rw [readInt_none (by omega)]
            unfold readTest
            dsimp only
            split
            · rename_i h
              rw [List.cons.injEq] at h
              exact absurd h.1 h0
            · rename_i h
              rw [List.cons.injEq] at h
              exact absurd h.1 h1
            · rename_i h
              rw [List.cons.injEq] at h
              exact absurd h.1 h2
            · rename_i h
              rw [List.cons.injEq] at h
              exact absurd h.1 h3
            · rfl
theorem got_some {n : Nat} {o : Option (TestT × List Int)} {t : TestT} {y : List Int} (h : gotT n o = some (t, y)) : okTest n t = true := by
  unfold gotT at h
  rw [Option.bind_eq_some_iff] at h
  obtain ⟨u, _, h⟩ := h
  by_cases c : okTest n u.1 = true
  · rw [if_pos c] at h
    cases h
    exact c
  · rw [if_neg c] at h
    cases h
theorem test_good {n : Nat} {x y : List Int} {t : TestT} (h : readTest n x = some (t, y)) : okTest n t = true := by
  unfold readTest at h
  dsimp only at h
  split at h
  · exact got_some (n := n) h
  · exact got_some (n := n) h
  · exact got_some (n := n) h
  · exact got_some (n := n) h
  · cases h
/-- so many, they -/
def listedSeq {A : Type} (lo hi : Int) (rd : Rd A) : Rd (List A) := fun x => (readInt lo hi x).bind fun u => readTimes rd u.1.toNat u.2
theorem listed_eq {A : Type} (lo hi : Nat) (rd : Rd A) (x : List Int) : readListed lo hi rd x = listedSeq (lo : Int) (hi : Int) rd x := by
  unfold readListed listedSeq
  rw [readNat_eq]
  cases readInt (lo : Int) (hi : Int) x <;> rfl
theorem listed_all {A : Type} {lo hi : Nat} {rd : Rd A} {Pr : A → Prop} (hp : ∀ x u y, rd x = some (u, y) → Pr u) {x y : List Int} {us : List A} (h : readListed lo hi rd x = some (us, y)) : lo ≤ us.length ∧ us.length ≤ hi ∧ ∀ u ∈ us, Pr u := by
  rw [listed_eq] at h
  unfold listedSeq at h
  rw [Option.bind_eq_some_iff] at h
  obtain ⟨u, hu, h⟩ := h
  have b := (readInt_some (z := u.1) (y := u.2) hu).2
  obtain ⟨h1, h2⟩ := times_all hp _ _ _ _ h
  exact ⟨by omega, by omega, h2⟩
theorem branch_eq (n : Nat) (x : List Int) : readBranch n x = (listedSeq 0 3 (readTest n) x).bind fun u => (readMove n u.2).map fun v => (⟨u.1, v.1⟩, v.2) := by
  unfold readBranch readPair readGuard
  rw [listed_eq]
  show Option.map _ ((listedSeq 0 3 (readTest n) x).bind _) = _
  cases listedSeq 0 3 (readTest n) x with
  | none => rfl
  | some u =>
    show Option.map _ (Option.map _ (readMove n u.2)) = _
    rw [Option.map_map]
    rfl
theorem branch_good {n : Nat} {x y : List Int} {b : BranchT} (hn : 1 ≤ n) (h : readBranch n x = some (b, y)) : GoodB n b := by
  rw [branch_eq, Option.bind_eq_some_iff] at h
  obtain ⟨u, hu, h⟩ := h
  rw [Option.map_eq_some_iff] at h
  obtain ⟨v, hv, e⟩ := h
  cases e
  have hu' : readListed 0 3 (readTest n) x = some (u.1, u.2) := (listed_eq 0 3 _ _).trans hu
  obtain ⟨_, h2, h3⟩ := listed_all (Pr := fun t => okTest n t = true) (fun _ _ _ e => test_good e) hu'
  exact ⟨move_good hn hv, h2, h3⟩
theorem loop_eq (n : Nat) (x : List Int) : readLoop n x = listedSeq 1 3 (readBranch n) x := listed_eq 1 3 _ _
theorem loop_good {n : Nat} {x y : List Int} {l : LoopT} (hn : 1 ≤ n) (h : readLoop n x = some (l, y)) : GoodL n l := by
  obtain ⟨h1, h2, h3⟩ := listed_all (Pr := GoodB n) (fun _ _ _ e => branch_good hn e) h
  exact ⟨fun e => by rw [e] at h1; exact absurd h1 (by decide), h2, h3⟩
def pieceSeq (n : Nat) : Rd PieceT := fun x => (readInt 0 1 x).bind fun u => if u.1 = 0 then (readMove n u.2).map fun v => (.move v.1, v.2) else (readLoop n u.2).map fun v => (.loop v.1, v.2)
theorem piece_eq (n : Nat) (x : List Int) : readPiece n x = pieceSeq n x := by
  unfold pieceSeq
  cases x with
  | nil => rfl
  | cons z r =>
    by_cases h0 : z = 0
    · subst h0
      rw [readInt_cons (by omega)]
      rfl
    · by_cases h1 : z = 1
      · subst h1
        rw [readInt_cons (by omega)]
        rfl
      · rw [readInt_none (by omega)]
        unfold readPiece
        split
        · rename_i h
          rw [List.cons.injEq] at h
          exact absurd h.1 h0
        · rename_i h
          rw [List.cons.injEq] at h
          exact absurd h.1 h1
        · rfl
theorem piece_good {n : Nat} {x y : List Int} {p : PieceT} (hn : 1 ≤ n) (h : readPiece n x = some (p, y)) : GoodP n p := by
  rw [piece_eq] at h
  unfold pieceSeq at h
  rw [Option.bind_eq_some_iff] at h
  obtain ⟨u, _, h⟩ := h
  by_cases c : u.1 = 0
  · rw [if_pos c, Option.map_eq_some_iff] at h
    obtain ⟨v, hv, e⟩ := h
    cases e
    exact move_good hn hv
  · rw [if_neg c, Option.map_eq_some_iff] at h
    obtain ⟨v, hv, e⟩ := h
    cases e
    exact loop_good hn hv
def programSeq : Rd ProgT := fun x => (readInt 1 4 x).bind fun n => (listedSeq 0 5 (readPiece n.1.toNat) n.2).map fun u => (⟨n.1.toNat, u.1⟩, u.2)
theorem program_eq (x : List Int) : readProgram x = programSeq x := by
  unfold readProgram programSeq
  show ((readInt 1 4 x).map _).bind _ = _
  cases readInt 1 4 x with
  | none => rfl
  | some u =>
    show Option.map _ (readListed 0 5 (readPiece u.1.toNat) u.2) = Option.map _ _
    rw [listed_eq]
    rfl
theorem program_good {x y : List Int} {p : ProgT} (h : readProgram x = some (p, y)) : GoodProg p := by
  rw [program_eq] at h
  unfold programSeq at h
  rw [Option.bind_eq_some_iff] at h
  obtain ⟨n, hn, h⟩ := h
  rw [Option.map_eq_some_iff] at h
  obtain ⟨u, hu, e⟩ := h
  cases e
  have b := (readInt_some (z := n.1) (y := n.2) hn).2
  have hu' : readListed 0 5 (readPiece n.1.toNat) n.2 = some (u.1, u.2) := (listed_eq 0 5 _ _).trans hu
  obtain ⟨_, h2, h3⟩ := listed_all (Pr := GoodP n.1.toNat) (fun _ _ _ e => piece_good (by omega) e) hu'
  exact ⟨by show 1 ≤ n.1.toNat; omega, by show n.1.toNat ≤ 4; omega, h2, h3⟩
end Lp
namespace Lp
open PySem PySem.Spec PyProof.Rows L2
open VaaclBase (Values readInt readTimes readGiven readMove readTest readBranch readLoop readPiece readProgram)
/-! ## The reader's object -/
def rF (nl : Addr) (k : Nat) : List (Str × V) := [("numbers", .ref nl), ("at", .int (k : Nat))]
theorem rF_numbers (nl : Addr) (k : Nat) : (rF nl k).lookup ("numbers" : Str) = some (.ref nl) := by
  have e : (("numbers" : Str) == ("numbers" : Str)) = true := beq_self_eq_true _
  simp only [rF, List.lookup, e]
theorem rF_at (nl : Addr) (k : Nat) : (rF nl k).lookup ("at" : Str) = some (.int (k : Nat)) := by
  have e : (("at" : Str) == ("numbers" : Str)) = false := by decide +kernel
  have e2 : (("at" : Str) == ("at" : Str)) = true := beq_self_eq_true _
  simp only [rF, List.lookup, e, e2]
theorem put_hit {f : Str} {v x : V} {r : List (Str × V)} : putF f v ((f, x) :: r) = (f, v) :: r := if_pos rfl
theorem put_miss {f g : Str} {v x : V} {r : List (Str × V)} (h : ¬ g = f) : putF f v ((g, x) :: r) = (g, x) :: putF f v r := if_neg h
theorem rF_put (nl : Addr) (k : Nat) : putF "at" (.int ((k : Int) + 1)) (rF nl k) = rF nl (k + 1) := (put_miss (by decide +kernel)).trans (congrArg _ put_hit)
theorem rF_new (nl : Addr) : putF "at" (.int 0) (putF "numbers" (.ref nl) []) = rF nl 0 := (put_miss (by decide +kernel)).trans rfl
def ReaderAt (C nl : Addr) (H : Hp) (a : Addr) (x : List Int) : Prop := ∃ (dx : Addr) (nums : List Int) (k : Nat), H a = some (.ins C dx (rF nl k)) ∧ IsI H nl nums ∧ k ≤ nums.length ∧ nums.drop k = x
theorem ReaderAt.is {C nl : Addr} {H : Hp} {a : Addr} {x : List Int} : ReaderAt C nl H a x → ∃ o, H a = some o
  | ⟨_, _, _, h, _⟩ => ⟨_, h⟩
theorem ReaderAt.nums {C nl : Addr} {H : Hp} {a : Addr} {x : List Int} : ReaderAt C nl H a x → ∃ o, H nl = some o
  | ⟨_, _, _, _, h, _⟩ => ⟨_, h⟩
theorem ReaderAt.put {C nl : Addr} {H : Hp} {a l : Addr} {x : List Int} {o : HO} (h : ReaderAt C nl H a x) (h1 : a ≠ l) (h2 : nl ≠ l) : ReaderAt C nl (upd H l o) a x := by
  obtain ⟨dx, nums, k, p1, p2, p3, p4⟩ := h
  exact ⟨dx, nums, k, (upd_ne h1).trans p1, (upd_ne h2).trans p2, p3, p4⟩
theorem ReaderAt.same {C nl : Addr} {H H' : Hp} {a : Addr} {x : List Int} (h : ReaderAt C nl H a x) (e : Same H H') : ReaderAt C nl H' a x := by
  obtain ⟨dx, nums, k, p1, p2, p3, p4⟩ := h
  exact ⟨dx, nums, k, e _ _ p1, e _ _ p2, p3, p4⟩
theorem ReaderAt.notlst {C nl : Addr} {H : Hp} {a l : Addr} {x : List Int} {o : List V} (h : ReaderAt C nl H a x) (hl : H l = some (.lst o)) : a ≠ l := by
  obtain ⟨_, _, _, h, _⟩ := h
  exact ne_of h hl (by intro z; cases z)
theorem But.new {a p : Addr} {H H' : Hp} {o : HO} (e : But a H H') (h : H' p = none) : But a H (upd H' p o) := fun b u hb hu => by
  have h1 := e b u hb hu
  have : b ≠ p := fun z => by
    rw [z, h] at h1
    cases h1
  rw [upd_ne this]
  exact h1
theorem But.fresh {a p : Addr} {H H' : Hp} {o : HO} (e : But a H H') (h : H p = none) : But a H (upd H' p o) := fun b u hb hu => by
  have : b ≠ p := fun z => by
    rw [z, h] at hu
    cases hu
  rw [upd_ne this]
  exact e b u hb hu
theorem But.trans {a : Addr} {H H1 H2 : Hp} (e : But a H H1) (f : But a H1 H2) : But a H H2 := fun b o hb h => f b o hb (e b o hb h)
/-- a heap of new objects within H -/
def Own (H0 J H : Hp) : Prop := Same J H ∧ ∀ b o, H0 b = some o → J b = none
theorem Own.wrap {H0 J H : Hp} {l : Addr} {o : HO} (w : Own H0 J H) (hl : H l = some o) (nl : H0 l = none) (jl : J l = none) : Own H0 (upd J l o) H ∧ Same J (upd J l o) := by
  refine ⟨⟨fun b u hb => ?_, fun b u hb => ?_⟩, fun b u hb => ?_⟩
  · by_cases c : b = l
    · subst c
      rw [upd_same] at hb
      cases hb
      exact hl
    · rw [upd_ne c] at hb
      exact w.1 b u hb
  · have : b ≠ l := fun z => by
      rw [z, nl] at hb
      cases hb
    rw [upd_ne this]
    exact w.2 b u hb
  · have : b ≠ l := fun z => by
      rw [z, jl] at hb
      cases hb
    rw [upd_ne this]
    exact hb
theorem Own.later {H0 J H H' : Hp} {a : Addr} (w : Own H0 J H) (ha : ∃ o, H0 a = some o) (e : But a H H') : Own H0 J H' := by
  obtain ⟨o, ha⟩ := ha
  refine ⟨fun b u hb => e b u (fun z => ?_) (w.1 b u hb), w.2⟩
  rw [z, w.2 a o ha] at hb
  cases hb
/-- two such heaps in one -/
theorem Own.both {H0 H1 H2 J J2 : Hp} {a : Addr} (w : Own H0 J H1) (w2 : Own H1 J2 H2) (ha : ∃ o, H0 a = some o) (e : But a H1 H2) (keep : ∀ b o, H0 b = some o → ∃ o', H1 b = some o') :
    ∃ U : Hp, Own H0 U H2 ∧ Same J U ∧ Same J2 U ∧ ∀ l o, J l = none → H1 l = some o → U l = none := by
  refine ⟨fun b => match J b with | some o => some o | none => J2 b, ⟨fun b o hb => ?_, fun b o hb => ?_⟩, fun b o hb => ?_, fun b o hb => ?_, fun l o hl h1 => ?_⟩
  · dsimp only at hb
    cases hj : J b with
    | some u =>
      rw [hj] at hb
      cases hb
      exact (w.later ha e).1 b _ hj
    | none =>
      rw [hj] at hb
      exact w2.1 b o hb
  · dsimp only
    rw [w.2 b o hb]
    obtain ⟨o', h'⟩ := keep b o hb
    exact w2.2 b o' h'
  · dsimp only
    rw [hb]
  · dsimp only
    cases hj : J b with
    | none => exact hb
    | some u =>
      have := w2.2 b u (w.1 b u hj)
      rw [this] at hb
      cases hb
  · dsimp only
    rw [hl]
    exact w2.2 l o h1
theorem own_none (H0 H : Hp) : Own H0 (fun _ => Option.none) H := by
  refine ⟨fun b o h => ?_, fun _ _ _ => rfl⟩
  have h' : (Option.none : Option HO) = some o := h
  cases h'
theorem But.keep {a : Addr} {H H' : Hp} (e : But a H H') (h : ∃ o, H' a = some o) : ∀ b o, H b = some o → ∃ o', H' b = some o' := fun b o hb => by
  by_cases c : b = a
  · rw [c]
    exact h
  · exact ⟨o, e b o c hb⟩
/-! ## The facts of the classes -/
structure NotOf (K : PySem.W.Frag) (mg : Str → Option Value) (CN : Addr) : Prop where
  g : mg "NotProgram" = some (.ref CN)
  x : PySem.W.excIn K CN [.type "Exception", .type "BaseException", .type "object"] "Exception.__new__" = true
  k : PySem.W.keepIn K (.ref CN) = true
  b : PySem.W.subIn K (.ref CN) (.type "BaseException") = some true
  t : PySem.W.typeIn K (.ref CN) = some (.type "type")
  e : PySem.W.exmOne K (.ref CN) (.ref CN) = some true
structure RdrOf (K : PySem.W.Frag) (mg : Str → Option Value) (CR : Addr) : Prop where
  cl : Cls K CR
  nN : NoAttr K CR "numbers"
  nA : NoAttr K CR "at"
  g : mg "Reader" = some (.ref CR)
/-- a method of the text -/
structure DefM (P : Program) (w : World) (K : PySem.W.Frag) (mg : Str → Option Value) (base : Heap) (CX : CXT) (k : Nat) (C : Addr) (x : Str) (ps : List Str) (sp : Sp) (f : Addr) (fd : FuncData) : Prop where
  meth : Meth K C x f
  b : Binds K fd ps []
  ok : FnOk P w K mg base CX k f fd ps sp
section
variable {P : Program} {w : World} {K : PySem.W.Frag} {mg : Str → Option Value} {base : Heap} {CR CN : Addr}
/-! ## Reader.__init__, take, is_done -/
abbrev sReaderInit : Stmt := inClass (top 56) 0
theorem scReaderInit : FnScope ["self", "numbers"] ["self", "numbers"] (defScope sReaderInit) := ⟨rfl, rfl, rfl, by decide +kernel, rfl, by decide +kernel, by decide +kernel⟩
def spReaderInit (C : Addr) : Sp := fun vs H Q _ => ∃ (p dx nl : Addr) (nums : List Int), vs = [.ref p, .ref nl] ∧ H p = some (.ins C dx []) ∧ IsI H nl nums ∧ ∀ H' : Hp, But p H H' → ReaderAt C nl H' p nums → Q .non H'
theorem ok_reader_init (T : RdrOf K mg CR) {f : Addr} {fd : FuncData} (F : Fun K "__init__" "Reader.__init__" sReaderInit f fd) : FnOk P w K mg base CX0 1 f fd ["self", "numbers"] (spReaderInit CR) := by
  refine F.ok scReaderInit (fun vs H Q E h => ?_) (fun cdv A outer s H vs Q E hr h => ⟨_, pss_cons (ps_fld (pv 0) (pv 1) rfl) (pss_one (ps_fld (pv 0) pe_int rfl)), ?_⟩)
  · obtain ⟨p, dx, nl, nums, rfl, _⟩ := h
    rfl
  · obtain ⟨p, dx, nl, nums, rfl, hp, hn, k⟩ := h
    refine ⟨_, rfl, _, rfl, p, CR, dx, _, rfl, hp, T.cl, T.nN, (by show 0 < 1000; decide), ?_⟩
    refine ⟨_, rfl, p, CR, dx, _, rfl, upd_same, T.cl, T.nA, (by show 1 < 1000; decide), ?_⟩
    have np : nl ≠ p := ne_of hn hp (by intro z; cases z)
    refine k _ ((But.refl p H).put.put) ⟨dx, nums, 0, ?_, (upd_ne np).trans ((upd_ne np).trans hn), Nat.zero_le _, rfl⟩
    rw [upd_same]
    exact congrArg (fun q => some (HO.ins CR dx q)) (rF_new nl)
abbrev sReaderTake : Stmt := inClass (top 56) 1
theorem scReaderTake : FnScope ["self", "lo", "hi", "number"] ["self", "lo", "hi"] (defScope sReaderTake) := ⟨rfl, rfl, rfl, by decide +kernel, rfl, by decide +kernel, by decide +kernel⟩
def spTake (CR CN : Addr) : Sp := fun vs H Q E => ∃ (a nl : Addr) (lo hi : Int) (x : List Int), vs = [.ref a, .int lo, .int hi] ∧ ReaderAt CR nl H a x ∧ (readInt lo hi x = none → E (.ref CN) none H) ∧ ∀ z y, readInt lo hi x = some (z, y) → ∀ H' : Hp, But a H H' → ReaderAt CR nl H' a y → Q (.int z) H'
theorem ok_take (G : NamesOf mg) (T : RdrOf K mg CR) (TNot : NotOf K mg CN) {f : Addr} {fd : FuncData} (F : Fun K "take" "Reader.take" sReaderTake f fd) : FnOk P w K mg base (L2.CX P w) 1 f fd ["self", "lo", "hi"] (spTake CR CN) := by
  refine F.okX scReaderTake (fun vs H Q E h => ?_) (fun cdv A outer s H vs Q E hr h => ⟨_, pss_cons (ps_if (pt_cmp (pc_ge (pe_fld (pv 0) rfl) (pe_callB call_len_seq (by rfl) G.len PySem.boot_len (pa_cons (pe_fld (pv 0) rfl) pa_nil)))) (pss_one (ps_raise rfl (takes_of rfl rfl rfl rfl) (pmk_own PySem.F.excBase_Exception TNot.x TNot.g TNot.k (raises_own TNot.b TNot.t) (by exact rfl)))) pss_nil) (pss_cons (ps_set (i := 3) scReaderTake.nd rfl (.inl rfl) (pe_ix ix_list (pe_fld (pv 0) rfl) (pe_fld (pv 0) rfl) (fun _ _ => rfl))) (pss_cons (ps_if (PW.pt (pw_or (pt_cmp (pc_lt (pv 3) (pv 1))) (pw_or1 (pt_cmp (pc_gt (pv 3) (pv 2)))))) (pss_one (ps_raise rfl (takes_of rfl rfl rfl rfl) (pmk_own PySem.F.excBase_Exception TNot.x TNot.g TNot.k (raises_own TNot.b TNot.t) (by exact rfl)))) pss_nil) (pss_cons (ps_fldaug (pv 0) pe_int in_add) (pss_one (ps_ret (pv 3)))))), ?_⟩)
  · obtain ⟨a, nl, lo, hi, x, rfl, _⟩ := h
    rfl
  · obtain ⟨a, nl, lo, hi, x, rfl, ⟨dx, nums, n, ha, hn, hle, hx⟩, kE, k⟩ := h
    have na : nl ≠ a := ne_of hn ha (by intro z; cases z)
    refine ⟨_, rfl, a, CR, dx, _, _, rfl, ha, T.cl, T.nA, rF_at nl n, _, rfl, a, CR, dx, _, _, rfl, ha, T.cl, T.nN, rF_numbers nl n, nl, _, rfl, .inl (SqL.of hn), _, _, rfl, rfl, _, rfl, ?_⟩
    rw [List.length_map]
    by_cases c : nums.length ≤ n
    · refine tru (decide_eq_true (by show ((n : Nat) : Int) ≥ (nums.length : Int); omega)) (kE ?_)
      rw [← hx, List.drop_of_length_le c]
      rfl
    · have hlt : n < nums.length := by omega
      have hxz : x = nums[n] :: nums.drop (n + 1) := by
        rw [← hx]
        exact List.drop_eq_getElem_cons hlt
      refine fls (decide_eq_false (by show ¬ ((n : Nat) : Int) ≥ (nums.length : Int); omega)) ?_
      have hg : (nums.map V.int)[n]? = some (.int nums[n]) := by
        rw [List.getElem?_map, List.getElem?_eq_getElem hlt]
        rfl
      refine ⟨_, rfl, a, CR, dx, _, _, rfl, ha, T.cl, T.nN, rF_numbers nl n, _, rfl, a, CR, dx, _, _, rfl, ha, T.cl, T.nA, rF_at nl n, nl, _, _, _, rfl, rfl, SqL.of hn, atI_nat hg, ?_⟩
      rw [hxz] at kE k
      generalize nums[n] = z at kE k
      refine ⟨_, rfl, _, rfl, _, _, rfl, rfl, _, rfl, ?_⟩
      by_cases c1 : z < lo
      · exact tru (decide_eq_true c1) (tru rfl (kE (readInt_none (by omega))))
      · refine fls (decide_eq_false c1) ⟨_, rfl, _, rfl, _, _, rfl, rfl, _, rfl, ?_⟩
        by_cases c2 : z > hi
        · exact tru (decide_eq_true c2) (kE (readInt_none (by omega)))
        · refine fls (decide_eq_false c2) ?_
          refine ⟨_, rfl, a, CR, dx, _, _, rfl, ha, T.cl, T.nA, rF_at nl n, _, _, rfl, rfl, dx, _, ha, (by show 2 < 1000; decide), ?_⟩
          refine ⟨_, rfl, ?_⟩
          refine k z _ (readInt_cons (by omega)) _ (But.refl a H).put ⟨dx, nums, n + 1, ?_, (upd_ne na).trans hn, hlt, rfl⟩
          rw [upd_same]
          exact congrArg (fun q => some (HO.ins CR dx q)) (rF_put nl n)
abbrev sReaderIsDone : Stmt := inClass (top 56) 2
theorem scReaderIsDone : FnScope ["self"] ["self"] (defScope sReaderIsDone) := ⟨rfl, rfl, rfl, by decide +kernel, rfl, by decide +kernel, by decide +kernel⟩
def spIsDone (CR : Addr) : Sp := fun vs H Q _ => ∃ (a nl : Addr) (x : List Int), vs = [.ref a] ∧ ReaderAt CR nl H a x ∧ Q (.bl (decide (x = []))) H
theorem ok_is_done (G : NamesOf mg) (T : RdrOf K mg CR) {f : Addr} {fd : FuncData} (F : Fun K "is_done" "Reader.is_done" sReaderIsDone f fd) : FnOk P w K mg base CX0 1 f fd ["self"] (spIsDone CR) := by
  refine F.ok scReaderIsDone (fun vs H Q E h => ?_) (fun cdv A outer s H vs Q E hr h => ⟨_, pss_one (ps_ret (pe_cmp (pc_eqI (pe_fld (pv 0) rfl) (pe_callB call_len_seq (by rfl) G.len PySem.boot_len (pa_cons (pe_fld (pv 0) rfl) pa_nil))))), ?_⟩)
  · obtain ⟨a, nl, x, rfl, _⟩ := h
    rfl
  · obtain ⟨a, nl, x, rfl, ⟨dx, nums, n, ha, hn, hle, hx⟩, k⟩ := h
    refine ⟨_, rfl, a, CR, dx, _, _, rfl, ha, T.cl, T.nA, rF_at nl n, _, rfl, a, CR, dx, _, _, rfl, ha, T.cl, T.nN, rF_numbers nl n, nl, _, rfl, .inl (SqL.of hn), _, _, rfl, rfl, ?_⟩
    rw [List.length_map]
    have e : decide (((n : Nat) : Int) = ((nums.length : Nat) : Int)) = decide (x = []) := by
      rw [Bool.eq_iff_iff, decide_eq_true_eq, decide_eq_true_eq, ← hx, List.drop_eq_nil_iff]
      omega
    dsimp only
    rw [e]
    exact k
/-! ## What the read_ defs promise -/
def spRd {A : Type} (CR CN : Addr) (rd : Nat → Rd A) (Rep : Hp → Addr → A → Prop) : Sp := fun vs H Q E => ∃ (a nl : Addr) (n : Nat) (x : List Int), vs = [.ref a, .int (n : Nat)] ∧ ReaderAt CR nl H a x ∧ 1 ≤ n ∧ n ≤ 4 ∧ (rd n x = none → ∀ H' : Hp, But a H H' → E (.ref CN) none H') ∧
  ∀ u y, rd n x = some (u, y) → ∀ (H' J : Hp) (t : Addr), But a H H' → ReaderAt CR nl H' a y → Own H J H' → Rep J t u → Q (.ref t) H'
/-- for j in range(many): row.append(read_one(reader, counters)) -/
theorem read_loop {A : Type} {rd : Nat → Rd A} {R : Hp → Addr → A → Prop} (mono : ∀ (J U : Hp) (t : Addr) (u : A), Same J U → R J t u → R U t u) {D : Ends} {σ : L2.St} {H H0 : Hp} {a l nm : Addr} {n k : Nat} {x : List Int} {ia inn il im ij : Nat} {E : XK}
    (h1 : σ[ia]? = some (some (.ref a))) (h2 : σ[inn]? = some (some (.int (n : Nat)))) (h3 : σ[il]? = some (some (.ref l))) (h4 : σ[im]? = some (some (.int (k : Nat)))) (d1 : ij ≠ ia) (d2 : ij ≠ inn) (d3 : ij ≠ il)
    (hn : 1 ≤ n ∧ n ≤ 4) (hk : k ≤ 10) (ra : ReaderAt CR nm H a x) (h0n : ∃ o, H0 nm = some o) (hl : H l = some (.lst [])) (nl : H0 l = none) (bt : But a H0 H) (h0a : ∃ o, H0 a = some o)
    (hE : readTimes (rd n) k x = none → ∀ H' : Hp, But a H0 H' → E (.ref CN) none H')
    (hD : ∀ us y, readTimes (rd n) k x = some (us, y) → ∀ (σ' : L2.St) (H' J : Hp) (ts : List Addr), (σ' = σ ∨ ∃ v, σ' = σ.set ij v) → But a H0 H' → ReaderAt CR nm H' a y → H' l = some (.lst (ts.map V.ref)) → Own H0 J H' → J l = none → Each (R J) ts us → D.nx σ' H') :
    tFor (iRng1 (tCons (tVar im) tNil)) (gName ij) (tDrop (tBM K "list" rAppend (tVar il) (tCons (tCall (spRd CR CN rd R) [] E (tCons (tVar ia) (tCons (tVar inn) tNil))) tNil))) D σ H := by
  refine ⟨_, h4, _, rfl, by omega, by omega, ?_⟩
  rw [Int.toNat_natCast]
  refine for_range (lo := 0) (n := k) (fun i σ' H' => ∃ (y : List Int) (J : Hp) (ts : List Addr) (done : List A), (σ' = σ ∨ ∃ v, σ' = σ.set ij v) ∧ But a H0 H' ∧ ReaderAt CR nm H' a y ∧ H' l = some (.lst (ts.map V.ref)) ∧ Own H0 J H' ∧ J l = none ∧ Each (R J) ts done ∧ done.length = i ∧
      readTimes (rd n) k x = (readTimes (rd n) (k - i) y).map fun v => (done ++ v.1, v.2))
    ⟨x, fun _ => none, [], [], .inl rfl, bt, ra, hl, own_none H0 H, rfl, trivial, rfl, ?_⟩ ?_ ?_
  · rw [Nat.sub_zero]
    cases readTimes (rd n) k x with
    | none => rfl
    | some v => rfl
  · rintro i σ' H' hi ⟨y, J, ts, done, hσ, be, ra', hL, own, jl, et, dl, eq⟩
    have same : ∀ i', ij ≠ i' → (σ'.set ij (some (.int (0 + (i : Nat)))))[i']? = σ[i']? := fun i' hne => by
      rcases hσ with rfl | ⟨v, rfl⟩
      · exact List.getElem?_set_ne hne
      · rw [List.set_set]
        exact List.getElem?_set_ne hne
    rw [show k - i = (k - (i + 1)) + 1 by omega, readTimes_succ] at eq
    refine ⟨_, (same il d3).trans h3, .inl ⟨rfl, _, SqL.of hL⟩, _, (same ia d1).trans h1, _, (same inn d2).trans h2, a, nm, n, y, rfl, ra', hn.1, hn.2, fun hnone H2 b2 => ?_, fun u y2 hsome H2 J2 t b2 ra2 own2 hR => ?_⟩
    · refine hE ?_ H2 (be.trans b2)
      rw [eq, hnone]
      rfl
    · have keep := be.keep ra'.is
      obtain ⟨U, ownU, s1, s2, ul⟩ := own.both own2 h0a b2 keep
      have al : l ≠ a := (ra'.notlst hL).symm
      have hL2 := b2 l _ al hL
      have ula := ul l _ jl hL
      have tl : ts.length = i := by rw [et.length, dl]
      refine ⟨l, _, _, rfl, rfl, hL2, by rw [List.length_map]; exact sizeOk (by omega), y2, U, ts ++ [t], done ++ [u], ?_, (be.trans b2).fresh nl, ?_, by rw [upd_same, List.map_append]; rfl, ⟨ownU.1.put ula, ownU.2⟩, ula, ?_, by rw [List.length_append, dl]; rfl, ?_⟩
      · rcases hσ with rfl | ⟨v, rfl⟩
        · exact .inr ⟨_, rfl⟩
        · exact .inr ⟨some (.int (0 + (i : Nat))), by rw [List.set_set]⟩
      · refine ra2.put al.symm (fun z => ?_)
        obtain ⟨o, ho⟩ := h0n
        rw [z, nl] at ho
        cases ho
      · exact Each.snoc (mono J2 U t u s2 hR) (et.mono fun t u z => mono J U t u s1 z)
      · rw [eq, hsome]
        show Option.map _ ((readTimes (rd n) (k - (i + 1)) y2).map _) = _
        rw [Option.map_map]
        congr 1
        funext v
        show (done ++ (u :: v.1), v.2) = (done ++ [u] ++ v.1, v.2)
        rw [List.append_assoc]
        rfl
  · rintro σ' H' ⟨y, J, ts, done, hσ, be, ra', hL, own, jl, et, dl, eq⟩
    rw [Nat.sub_self] at eq
    have eq' : readTimes (rd n) k x = some (done, y) := by
      rw [eq]
      show some (done ++ [], y) = _
      rw [List.append_nil]
    exact hD done y eq' σ' H' J ts hσ be ra' hL own jl et
end
end Lp
namespace Lp
open PySem PySem.Spec PyProof.Rows L2
open VaaclBase (Values readInt readTimes readGiven readMove readTest readBranch readLoop readPiece readProgram)
theorem rF_take (nl : Addr) (k : Nat) : (rF nl k).lookup ("take" : Str) = none := by
  have e : (("take" : Str) == ("numbers" : Str)) = false := by decide +kernel
  have e2 : (("take" : Str) == ("at" : Str)) = false := by decide +kernel
  simp only [rF, List.lookup, e, e2]
theorem rF_done (nl : Addr) (k : Nat) : (rF nl k).lookup ("is_done" : Str) = none := by
  have e : (("is_done" : Str) == ("numbers" : Str)) = false := by decide +kernel
  have e2 : (("is_done" : Str) == ("at" : Str)) = false := by decide +kernel
  simp only [rF, List.lookup, e, e2]
theorem But.free {a t : Addr} {H H' : Hp} (e : But a H H') (ha : ∃ o, H' a = some o) (h : H' t = none) : H t = none := by
  cases q : H t with
  | none => rfl
  | some o =>
    obtain ⟨o', h'⟩ := e.keep ha t o q
    rw [h] at h'
    cases h'
/-- a new tuple alone -/
theorem own_one {H0 H : Hp} {t : Addr} {o : HO} (h : H0 t = none) : Own H0 (upd (fun _ => Option.none) t o) (upd H t o) := ((own_none H0 (upd H t o)).wrap upd_same h rfl).1
section
variable {P : Program} {w : World} {K : PySem.W.Frag} {mg : Str → Option Value} {base : Heap} {CR CN : Addr} {f1 f2 f3 : Addr} {d1 d2 d3 : FuncData}
/-! ## read_given -/
abbrev sReadGiven : Stmt := top 57
theorem scReadGiven : FnScope ["reader", "counters", "source"] ["reader", "counters"] (defScope sReadGiven) := ⟨rfl, rfl, rfl, by decide +kernel, rfl, by decide +kernel, by decide +kernel⟩
theorem ok_read_given (TReader : RdrOf K mg CR) (DReaderTake : DefM P w K mg base (L2.CX P w) 1 CR "take" ["self", "lo", "hi"] (spTake CR CN) f1 d1)
    {f : Addr} {fd : FuncData} (F : Fun K "read_given" "read_given" sReadGiven f fd) : FnOk P w K mg base (L2.CX P w) 2 f fd ["reader", "counters"] (spRd CR CN readGiven GivenAt) := by
  refine F.okX scReadGiven (fun vs H Q E h => ?_) (fun cdv A outer s H vs Q E hr h => ⟨_, pss_cons (ps_if (pt_cmp (pc_eqI (pe_meth (pv 0) TReader.cl DReaderTake.meth DReaderTake.ok (hr.mono (by decide)) DReaderTake.b .nil (passes_call (takes_of rfl rfl rfl rfl) (fun _ _ _ _ h => h)) (pa_cons pe_int (pa_cons pe_int pa_nil))) pe_int)) (pss_one (ps_ret (pe_tup (pa_cons (pe_un un_neg pe_int) (pa_cons (pe_meth (pv 0) TReader.cl DReaderTake.meth DReaderTake.ok (hr.mono (by decide)) DReaderTake.b .nil (passes_call (takes_of rfl rfl rfl rfl) (fun _ _ _ _ h => h)) (pa_cons (pe_un un_neg pe_int) (pa_cons pe_int pa_nil))) pa_nil))))) pss_nil) (pss_cons (ps_set (i := 2) scReadGiven.nd rfl (.inl rfl) (pe_meth (pv 0) TReader.cl DReaderTake.meth DReaderTake.ok (hr.mono (by decide)) DReaderTake.b .nil (passes_call (takes_of rfl rfl rfl rfl) (fun _ _ _ _ h => h)) (pa_cons pe_int (pa_cons (pe_op op_sub (pv 1) pe_int) pa_nil)))) (pss_one (ps_ret (pe_tup (pa_cons (pv 2) (pa_cons (pe_meth (pv 0) TReader.cl DReaderTake.meth DReaderTake.ok (hr.mono (by decide)) DReaderTake.b .nil (passes_call (takes_of rfl rfl rfl rfl) (fun _ _ _ _ h => h)) (pa_cons (pe_un un_neg pe_int) (pa_cons pe_int pa_nil))) pa_nil)))))), ?_⟩)
  · obtain ⟨a, nl, n, x, rfl, _⟩ := h
    rfl
  · obtain ⟨a, nl, n, x, rfl, ra, n1, n4, kE, k⟩ := h
    rw [given_eq n1] at kE k
    unfold givenSeq at kE k
    obtain ⟨dx, nums, k0, r1, _⟩ := id ra
    refine ⟨_, rfl, a, dx, rF nl k0, rfl, r1, rF_take nl k0, a, nl, 0, 1, x, rfl, ra, fun hn => kE (by rw [hn]; rfl) H (But.refl a H), fun z y hz H1 b1 ra1 => ?_⟩
    rw [hz] at kE k
    have zb := (readInt_some hz).2
    change (if z = 0 then _ else _) = none → _ at kE
    change ∀ u y', (if z = 0 then _ else _) = some (u, y') → _ at k
    refine ⟨_, _, rfl, rfl, _, rfl, ?_⟩
    obtain ⟨dx1, nums1, k1, q1, _⟩ := id ra1
    by_cases c : z = 0
    · rw [if_pos c] at kE
      simp only [if_pos c] at k
      refine tru (decide_eq_true c) ?_
      refine ⟨_, rfl, _, rfl, a, dx1, rF nl k1, rfl, q1, rF_take nl k1, _, rfl, a, nl, -99, 99, y, rfl, ra1, fun hn => kE (by rw [hn]; rfl) H1 b1, fun v y2 hv H2 b2 ra2 => ?_⟩
      rw [hv] at k
      refine ⟨by show 2 ≤ sizeLine; decide, fun t ht => ?_⟩
      have nt : H t = none := (b1.trans b2).free ra2.is ht
      exact k _ y2 rfl _ _ t ((b1.trans b2).new ht) (ra2.same ((Same.refl H2).new ht)) (own_one nt) upd_same
    · rw [if_neg c] at kE
      simp only [if_neg c] at k
      refine fls (decide_eq_false c) ?_
      refine ⟨_, rfl, a, dx1, rF nl k1, rfl, q1, rF_take nl k1, _, rfl, _, _, rfl, rfl, a, nl, 0, (n : Int) - 1, y, rfl, ra1, fun hn => kE (by rw [hn]; rfl) H1 b1, fun sv y2 hs H2 b2 ra2 => ?_⟩
      rw [hs] at kE k
      have sb := (readInt_some hs).2
      obtain ⟨dx2, nums2, k2, p1, _⟩ := id ra2
      refine ⟨_, rfl, _, rfl, a, dx2, rF nl k2, rfl, p1, rF_take nl k2, _, rfl, a, nl, -99, 99, y2, rfl, ra2, fun hn => kE (by show Option.map _ (readInt (-99) 99 y2) = none; rw [hn]; rfl) H2 (b1.trans b2), fun v y3 hv H3 b3 ra3 => ?_⟩
      refine ⟨by show 2 ≤ sizeLine; decide, fun t ht => ?_⟩
      have b03 := (b1.trans b2).trans b3
      have nt : H t = none := b03.free ra3.is ht
      refine k (⟨some sv.toNat, v⟩ : GivenT) y3 (by show Option.map _ (readInt (-99) 99 y2) = _; rw [hv]; rfl) _ _ t (b03.new ht) (ra3.same ((Same.refl H3).new ht)) (own_one nt) ?_
      unfold GivenAt
      rw [upd_same]
      show some (HO.tup [.int sv, .int v]) = some (HO.tup [.int ((sv.toNat : Nat) : Int), .int v])
      rw [Int.toNat_of_nonneg sb.1]
/-! ## read_move -/
abbrev sReadMove : Stmt := top 58
theorem scReadMove : FnScope ["reader", "counters", "move", "j"] ["reader", "counters"] (defScope sReadMove) := ⟨rfl, rfl, rfl, by decide +kernel, rfl, by decide +kernel, by decide +kernel⟩
theorem ok_read_move (G : NamesOf mg) (DReadGiven : Def P w K mg base (L2.CX P w) 2 "read_given" ["reader", "counters"] (spRd CR CN readGiven GivenAt) f1 d1)
    {f : Addr} {fd : FuncData} (F : Fun K "read_move" "read_move" sReadMove f fd) : FnOk P w K mg base (L2.CX P w) 3 f fd ["reader", "counters"] (spRd CR CN readMove MoveAt) := by
  refine F.okX scReadMove (fun vs H Q E h => ?_) (fun cdv A outer s H vs Q E hr h => ⟨_, pss_cons (ps_set (i := 2) scReadMove.nd rfl (.inl rfl) (pe_lst pa_nil)) (pss_cons (ps_for (passes_of rfl) rfl (pi_range1 rfl G.range (pa_cons (pv 1) pa_nil)) (pg_name (i := 3) scReadMove.nd rfl (.inl rfl)) (pss_one (ps_expr (pe_bm PySem.F.plainAttrs_list PySem.F.slot_list_append PySem.F.type_list_append mt_append (pv 2) (pa_cons (pe_call DReadGiven.ok (hr.mono (by decide)) rfl DReadGiven.m DReadGiven.kp DReadGiven.b .nil (passes_call (takes_of rfl rfl rfl rfl) (fun _ _ _ _ h => h)) (pa_cons (pv 0) (pa_cons (pv 1) pa_nil))) pa_nil))))) (pss_one (ps_ret (pv 2)))), ?_⟩)
  · obtain ⟨a, nl, n, x, rfl, _⟩ := h
    rfl
  · obtain ⟨a, nl, n, x, rfl, ra, n1, n4, kE, k⟩ := h
    refine ⟨by show 0 ≤ sizeLine; decide, fun l hl => ?_⟩
    have e0 : Same H (upd H l (.lst [])) := (Same.refl H).new hl
    refine read_loop (rd := readGiven) (R := GivenAt) (fun J U t u e h => e _ _ h) (H0 := H) (a := a) (l := l) (n := n) (k := n) (x := x) (ia := 0) (inn := 1) (il := 2) (im := 1) (ij := 3) rfl rfl rfl rfl (by decide) (by decide) (by decide) ⟨n1, n4⟩ (by omega)
      (ra.same e0) ra.nums upd_same hl ((But.refl a H).new hl) ra.is (fun hn => kE hn) (fun us y hs σ' H' J ts hσ b ra' hL own jl et => ?_)
    obtain ⟨w1, w2⟩ := own.wrap hL hl jl
    have sl : σ'[2]? = some (some (.ref l)) := by
      rcases hσ with rfl | ⟨v, rfl⟩
      · rfl
      · rfl
    exact ⟨_, sl, k us y hs H' _ l b ra' w1 ⟨ts, upd_same, et.mono fun _ _ z => w2 _ _ z⟩⟩
/-! ## read_test -/
abbrev sReadTest : Stmt := top 59
theorem scReadTest : FnScope ["reader", "counters", "kind", "counter", "other", "m"] ["reader", "counters"] (defScope sReadTest) := ⟨rfl, rfl, rfl, by decide +kernel, rfl, by decide +kernel, by decide +kernel⟩
theorem ok_read_test (TReader : RdrOf K mg CR) (TNot : NotOf K mg CN) (DReaderTake : DefM P w K mg base (L2.CX P w) 1 CR "take" ["self", "lo", "hi"] (spTake CR CN) f1 d1)
    {f : Addr} {fd : FuncData} (F : Fun K "read_test" "read_test" sReadTest f fd) : FnOk P w K mg base (L2.CX P w) 2 f fd ["reader", "counters"] (spRd CR CN readTest TestAt) := by
  refine F.okX scReadTest (fun vs H Q E h => ?_) (fun cdv A outer s H vs Q E hr h => ⟨_, pss_cons (ps_set (i := 2) scReadTest.nd rfl (.inl rfl) (pe_meth (pv 0) TReader.cl DReaderTake.meth DReaderTake.ok (hr.mono (by decide)) DReaderTake.b .nil (passes_call (takes_of rfl rfl rfl rfl) (fun _ _ _ _ h => h)) (pa_cons pe_int (pa_cons pe_int pa_nil)))) (pss_cons (ps_set (i := 3) scReadTest.nd rfl (.inl rfl) (pe_meth (pv 0) TReader.cl DReaderTake.meth DReaderTake.ok (hr.mono (by decide)) DReaderTake.b .nil (passes_call (takes_of rfl rfl rfl rfl) (fun _ _ _ _ h => h)) (pa_cons pe_int (pa_cons (pe_op op_sub (pv 1) pe_int) pa_nil)))) (pss_cons (ps_if (pt_cmp (pc_eqI (pv 2) pe_int)) (pss_cons (ps_set (i := 4) scReadTest.nd rfl (.inl rfl) (pe_meth (pv 0) TReader.cl DReaderTake.meth DReaderTake.ok (hr.mono (by decide)) DReaderTake.b .nil (passes_call (takes_of rfl rfl rfl rfl) (fun _ _ _ _ h => h)) (pa_cons pe_int (pa_cons (pe_op op_sub (pv 1) pe_int) pa_nil)))) (pss_one (ps_ret (pe_tup (pa_cons pe_int (pa_cons (pv 3) (pa_cons (pv 4) (pa_cons (pe_meth (pv 0) TReader.cl DReaderTake.meth DReaderTake.ok (hr.mono (by decide)) DReaderTake.b .nil (passes_call (takes_of rfl rfl rfl rfl) (fun _ _ _ _ h => h)) (pa_cons (pe_un un_neg pe_int) (pa_cons pe_int pa_nil))) pa_nil)))))))) pss_nil) (pss_cons (ps_if (pt_cmp (pc_eqI (pv 2) pe_int)) (pss_cons (ps_set (i := 5) scReadTest.nd rfl (.inl rfl) (pe_meth (pv 0) TReader.cl DReaderTake.meth DReaderTake.ok (hr.mono (by decide)) DReaderTake.b .nil (passes_call (takes_of rfl rfl rfl rfl) (fun _ _ _ _ h => h)) (pa_cons pe_int (pa_cons pe_int pa_nil)))) (pss_cons (ps_if (pt_cmp (pc_eqI (pv 5) pe_int)) (pss_one (ps_raise rfl (takes_of rfl rfl rfl rfl) (pmk_own PySem.F.excBase_Exception TNot.x TNot.g TNot.k (raises_own TNot.b TNot.t) (by exact rfl)))) pss_nil) (pss_one (ps_ret (pe_tup (pa_cons pe_int (pa_cons (pv 3) (pa_cons (pv 5) (pa_cons (pe_meth (pv 0) TReader.cl DReaderTake.meth DReaderTake.ok (hr.mono (by decide)) DReaderTake.b .nil (passes_call (takes_of rfl rfl rfl rfl) (fun _ _ _ _ h => h)) (pa_cons pe_int (pa_cons (pe_op op_sub (pv 5) pe_int) pa_nil))) pa_nil))))))))) pss_nil) (pss_one (ps_ret (pe_tup (pa_cons (pv 2) (pa_cons (pv 3) (pa_cons (pe_meth (pv 0) TReader.cl DReaderTake.meth DReaderTake.ok (hr.mono (by decide)) DReaderTake.b .nil (passes_call (takes_of rfl rfl rfl rfl) (fun _ _ _ _ h => h)) (pa_cons (pe_un un_neg pe_int) (pa_cons pe_int pa_nil))) (pa_cons pe_int pa_nil)))))))))), ?_⟩)
  · obtain ⟨a, nl, n, x, rfl, _⟩ := h
    rfl
  · obtain ⟨a, nl, n, x, rfl, ra, n1, n4, kE, k⟩ := h
    rw [test_eq n1] at kE k
    unfold testSeq at kE k
    obtain ⟨dx, nums, k0, r1, _⟩ := id ra
    refine ⟨_, rfl, a, dx, rF nl k0, rfl, r1, rF_take nl k0, a, nl, 0, 3, x, rfl, ra, fun hn => kE (by rw [hn]; rfl) H (But.refl a H), fun kd y hz H1 b1 ra1 => ?_⟩
    rw [hz] at kE k
    have kb := (readInt_some hz).2
    obtain ⟨dx1, nums1, k1, q1, _⟩ := id ra1
    refine ⟨_, rfl, a, dx1, rF nl k1, rfl, q1, rF_take nl k1, _, rfl, _, _, rfl, rfl, a, nl, 0, (n : Int) - 1, y, rfl, ra1, fun hn => kE (by show Option.bind (readInt 0 ((n : Int) - 1) y) _ = none; rw [hn]; rfl) H1 b1, fun cv y2 hc H2 b2 ra2 => ?_⟩
    have cb := (readInt_some hc).2
    change (Option.bind (readInt 0 ((n : Int) - 1) y) _) = none → _ at kE
    change ∀ u y', (Option.bind (readInt 0 ((n : Int) - 1) y) _) = some (u, y') → _ at k
    rw [hc] at kE k
    obtain ⟨dx2, nums2, k2, p1, _⟩ := id ra2
    have b02 := b1.trans b2
    -- how a tuple is handed back
    have out : ∀ (H3 : Hp) (vs : List V) (t' : TestT) (y3 : List Int), But a H H3 → ReaderAt CR nl H3 a y3 → vs = (test4 t').map V.int → (∀ (H' J : Hp) (t : Addr), But a H H' → ReaderAt CR nl H' a y3 → Own H J H' → TestAt J t t' → Q (.ref t) H') → ∀ t : Addr, H3 t = none → Q (.ref t) (upd H3 t (.tup vs)) := by
      intro H3 vs t' y3 b3 ra3 hv kk t ht
      rw [hv]
      exact kk _ _ t (b3.new ht) (ra3.same ((Same.refl H3).new ht)) (own_one (b3.free ra3.is ht)) upd_same
    refine ⟨_, rfl, _, _, rfl, rfl, _, rfl, ?_⟩
    by_cases c2 : kd = 2
    · subst c2
      refine tru rfl ?_
      refine ⟨_, rfl, a, dx2, rF nl k2, rfl, p1, rF_take nl k2, _, rfl, _, _, rfl, rfl, a, nl, 0, (n : Int) - 1, y2, rfl, ra2, fun hn => kE (by show Option.bind (readInt 0 ((n : Int) - 1) y2) _ = none; rw [hn]; rfl) H2 b02, fun ov y3 ho H3 b3 ra3 => ?_⟩
      have ob := (readInt_some ho).2
      obtain ⟨dx3, nums3, k3, w1, _⟩ := id ra3
      have b03 := b02.trans b3
      refine ⟨_, rfl, _, rfl, _, rfl, a, dx3, rF nl k3, rfl, w1, rF_take nl k3, _, rfl, a, nl, -999999, 999999, y3, rfl, ra3, fun hn => kE (by show Option.bind (readInt 0 ((n : Int) - 1) y2) _ = none; rw [ho]; show Option.map _ (readInt (-999999) 999999 y3) = none; rw [hn]; rfl) H3 b03, fun v y4 hv H4 b4 ra4 => ?_⟩
      refine ⟨by show 4 ≤ sizeLine; decide, fun t ht => ?_⟩
      refine out H4 _ (.below cv.toNat ov.toNat v) y4 (b03.trans b4) ra4 ?_ (k _ y4 (by show Option.bind (readInt 0 ((n : Int) - 1) y2) _ = _; rw [ho]; show Option.map _ (readInt (-999999) 999999 y3) = _; rw [hv]; rfl)) t ht
      show [V.int 2, .int cv, .int ov, .int v] = [V.int 2, .int ((cv.toNat : Nat) : Int), .int ((ov.toNat : Nat) : Int), .int v]
      rw [Int.toNat_of_nonneg cb.1, Int.toNat_of_nonneg ob.1]
    · refine fls (decide_eq_false c2) ⟨_, rfl, _, _, rfl, rfl, _, rfl, ?_⟩
      by_cases c3 : kd = 3
      · subst c3
        refine tru rfl ?_
        refine ⟨_, rfl, a, dx2, rF nl k2, rfl, p1, rF_take nl k2, a, nl, 2, 6, y2, rfl, ra2, fun hn => kE (by show Option.bind (readInt 2 6 y2) _ = none; rw [hn]; rfl) H2 b02, fun mv y3 hm H3 b3 ra3 => ?_⟩
        have mb := (readInt_some hm).2
        obtain ⟨dx3, nums3, k3, w1, _⟩ := id ra3
        have b03 := b02.trans b3
        have kE : (if mv = 5 then none else (readInt 0 (mv - 1) y3).map fun v => ((VaaclBase.Test.rem cv.toNat mv.toNat v.1.toNat, v.2) : TestT × List Int)) = none → ∀ H', But a H H' → E (.ref CN) none H' := fun hn => kE (by show Option.bind (readInt 2 6 y2) _ = none; rw [hm]; exact hn)
        have k := fun u y' (hn : (if mv = 5 then none else (readInt 0 (mv - 1) y3).map fun v => ((VaaclBase.Test.rem cv.toNat mv.toNat v.1.toNat, v.2) : TestT × List Int)) = some (u, y')) => k u y' (by show Option.bind (readInt 2 6 y2) _ = _; rw [hm]; exact hn)
        refine ⟨_, rfl, _, _, rfl, rfl, _, rfl, ?_⟩
        by_cases c5 : mv = 5
        · refine tru (decide_eq_true c5) (kE (if_pos c5) H3 b03)
        · refine fls (decide_eq_false c5) ?_
          refine ⟨_, rfl, _, rfl, _, rfl, a, dx3, rF nl k3, rfl, w1, rF_take nl k3, _, rfl, _, _, rfl, rfl, a, nl, 0, mv - 1, y3, rfl, ra3, fun hn => kE (by rw [if_neg c5, hn]; rfl) H3 b03, fun v y4 hv H4 b4 ra4 => ?_⟩
          have vb := (readInt_some hv).2
          refine ⟨by show 4 ≤ sizeLine; decide, fun t ht => ?_⟩
          refine out H4 _ (.rem cv.toNat mv.toNat v.toNat) y4 (b03.trans b4) ra4 ?_ (k _ y4 (by rw [if_neg c5, hv]; rfl)) t ht
          show [V.int 3, .int cv, .int mv, .int v] = [V.int 3, .int ((cv.toNat : Nat) : Int), .int ((mv.toNat : Nat) : Int), .int ((v.toNat : Nat) : Int)]
          rw [Int.toNat_of_nonneg cb.1, Int.toNat_of_nonneg (by omega), Int.toNat_of_nonneg vb.1]
      · have eqk : ∀ o : Option (TestT × List Int), ∀ m : Option (TestT × List Int), ∀ r : Option (TestT × List Int), (if kd = 2 then o else if kd = 3 then m else r) = r := fun o m r => by rw [if_neg c2, if_neg c3]
        refine fls (decide_eq_false c3) ?_
        refine ⟨_, rfl, _, rfl, _, rfl, a, dx2, rF nl k2, rfl, p1, rF_take nl k2, _, rfl, a, nl, -999999, 999999, y2, rfl, ra2, fun hn => kE ((eqk _ _ _).trans (by rw [hn]; rfl)) H2 b02, fun v y3 hv H3 b3 ra3 => ?_⟩
        refine ⟨by show 4 ≤ sizeLine; decide, fun t ht => ?_⟩
        refine out H3 _ (if kd = 0 then .atMost cv.toNat v else .atLeast cv.toNat v) y3 (b02.trans b3) ra3 ?_ (k _ y3 ((eqk _ _ _).trans (by rw [hv]; rfl))) t ht
        by_cases c0 : kd = 0
        · rw [if_pos c0, c0]
          show [V.int 0, .int cv, .int v, .int 0] = [V.int 0, .int ((cv.toNat : Nat) : Int), .int v, .int 0]
          rw [Int.toNat_of_nonneg cb.1]
        · rw [if_neg c0, show kd = 1 by omega]
          show [V.int 1, .int cv, .int v, .int 0] = [V.int 1, .int ((cv.toNat : Nat) : Int), .int v, .int 0]
          rw [Int.toNat_of_nonneg cb.1]
end
end Lp
namespace Lp
open PySem PySem.Spec PyProof.Rows L2
open VaaclBase (Values readInt readTimes readGiven readMove readTest readBranch readLoop readPiece readProgram)
theorem Own.off {H0 J H : Hp} {t : Addr} (w : Own H0 J H) (h : H t = none) : J t = none := by
  cases q : J t with
  | none => rfl
  | some o =>
    have := w.1 t o q
    rw [h] at this
    cases this
/-- a new tuple over what is there -/
theorem Own.tup {H0 J H : Hp} {t : Addr} {o : HO} (w : Own H0 J H) (h : H t = none) (h0 : H0 t = none) : Own H0 (upd J t o) (upd H t o) ∧ Same J (upd J t o) := by
  have w' : Own H0 J (upd H t o) := ⟨w.1.new h, w.2⟩
  exact w'.wrap upd_same h0 (w.off h)
section
variable {P : Program} {w : World} {K : PySem.W.Frag} {mg : Str → Option Value} {base : Heap} {CR CN : Addr} {f1 f2 f3 f4 f5 : Addr} {d1 d2 d3 d4 d5 : FuncData}
/-! ## read_branch -/
abbrev sReadBranch : Stmt := top 60
theorem scReadBranch : FnScope ["reader", "counters", "many", "tests", "j"] ["reader", "counters"] (defScope sReadBranch) := ⟨rfl, rfl, rfl, by decide +kernel, rfl, by decide +kernel, by decide +kernel⟩
theorem ok_read_branch (G : NamesOf mg) (TReader : RdrOf K mg CR) (DReaderTake : DefM P w K mg base (L2.CX P w) 1 CR "take" ["self", "lo", "hi"] (spTake CR CN) f1 d1)
    (DReadTest : Def P w K mg base (L2.CX P w) 2 "read_test" ["reader", "counters"] (spRd CR CN readTest TestAt) f2 d2) (DReadMove : Def P w K mg base (L2.CX P w) 3 "read_move" ["reader", "counters"] (spRd CR CN readMove MoveAt) f3 d3)
    {f : Addr} {fd : FuncData} (F : Fun K "read_branch" "read_branch" sReadBranch f fd) : FnOk P w K mg base (L2.CX P w) 4 f fd ["reader", "counters"] (spRd CR CN readBranch BranchAt) := by
  refine F.okX scReadBranch (fun vs H Q E h => ?_) (fun cdv A outer s H vs Q E hr h => ⟨_, pss_cons (ps_set (i := 2) scReadBranch.nd rfl (.inl rfl) (pe_meth (pv 0) TReader.cl DReaderTake.meth DReaderTake.ok (hr.mono (by decide)) DReaderTake.b .nil (passes_call (takes_of rfl rfl rfl rfl) (fun _ _ _ _ h => h)) (pa_cons pe_int (pa_cons pe_int pa_nil)))) (pss_cons (ps_set (i := 3) scReadBranch.nd rfl (.inl rfl) (pe_lst pa_nil)) (pss_cons (ps_for (passes_of rfl) rfl (pi_range1 rfl G.range (pa_cons (pv 2) pa_nil)) (pg_name (i := 4) scReadBranch.nd rfl (.inl rfl)) (pss_one (ps_expr (pe_bm PySem.F.plainAttrs_list PySem.F.slot_list_append PySem.F.type_list_append mt_append (pv 3) (pa_cons (pe_call DReadTest.ok (hr.mono (by decide)) rfl DReadTest.m DReadTest.kp DReadTest.b .nil (passes_call (takes_of rfl rfl rfl rfl) (fun _ _ _ _ h => h)) (pa_cons (pv 0) (pa_cons (pv 1) pa_nil))) pa_nil))))) (pss_one (ps_ret (pe_tup (pa_cons (pv 3) (pa_cons (pe_call DReadMove.ok (hr.mono (by decide)) rfl DReadMove.m DReadMove.kp DReadMove.b .nil (passes_call (takes_of rfl rfl rfl rfl) (fun _ _ _ _ h => h)) (pa_cons (pv 0) (pa_cons (pv 1) pa_nil))) pa_nil))))))), ?_⟩)
  · obtain ⟨a, nl, n, x, rfl, _⟩ := h
    rfl
  · obtain ⟨a, nl, n, x, rfl, ra, n1, n4, kE, k⟩ := h
    rw [branch_eq] at kE k
    unfold listedSeq at kE k
    obtain ⟨dx, nums, k0, r1, _⟩ := id ra
    refine ⟨_, rfl, a, dx, rF nl k0, rfl, r1, rF_take nl k0, a, nl, 0, 3, x, rfl, ra, fun hn => kE (by rw [hn]; rfl) H (But.refl a H), fun mv y hz H1 b1 ra1 => ?_⟩
    rw [hz] at kE k
    have mb := (readInt_some hz).2
    obtain ⟨m, rfl⟩ : ∃ m : Nat, mv = m := ⟨mv.toNat, by omega⟩
    have kE : Option.bind (readTimes (readTest n) m y) (fun u => (readMove n u.2).map fun v => ((⟨u.1, v.1⟩, v.2) : BranchT × List Int)) = none → ∀ H', But a H H' → E (.ref CN) none H' := kE
    have k : ∀ u y', Option.bind (readTimes (readTest n) m y) (fun u => (readMove n u.2).map fun v => ((⟨u.1, v.1⟩, v.2) : BranchT × List Int)) = some (u, y') → ∀ (H' J : Hp) (t : Addr), But a H H' → ReaderAt CR nl H' a y' → Own H J H' → BranchAt J t u → Q (.ref t) H' := k
    refine ⟨by show 0 ≤ sizeLine; decide, fun l hl => ?_⟩
    have nl0 : H l = none := b1.free ra1.is hl
    refine read_loop (rd := readTest) (R := TestAt) (fun J U t u e h => e _ _ h) (H0 := H) (a := a) (l := l) (n := n) (k := m) (x := y) (ia := 0) (inn := 1) (il := 3) (im := 2) (ij := 4) rfl rfl rfl rfl (by decide) (by decide) (by decide) ⟨n1, n4⟩ (by omega)
      (ra1.same ((Same.refl H1).new hl)) ra.nums upd_same nl0 (b1.new hl) ra.is (fun hn => kE (by rw [hn]; rfl)) (fun us y2 hs σ' H2 J ts hσ b2 ra2 hL own jl et => ?_)
    obtain ⟨w1, w2⟩ := own.wrap hL nl0 jl
    have slot : ∀ i v, i < 4 → [some (V.ref a), some (.int (n : Nat)), some (.int (m : Nat)), some (.ref l), none][i]? = some v → σ'[i]? = some v := fun i v hi h => by
      rcases hσ with rfl | ⟨v', rfl⟩
      · exact h
      · exact (List.getElem?_set_ne (by omega)).trans h
    rw [hs] at kE k
    refine ⟨_, slot 3 _ (by decide) rfl, _, slot 0 _ (by decide) rfl, _, slot 1 _ (by decide) rfl, a, nl, n, y2, rfl, ra2, n1, n4, fun hn H3 b3 => kE (by show Option.map _ (readMove n y2) = none; rw [hn]; rfl) H3 (b2.trans b3), fun mo y3 hm H3 J2 t2 b3 ra3 own2 hM => ?_⟩
    refine ⟨by show 2 ≤ sizeLine; decide, fun T hT => ?_⟩
    obtain ⟨U, ownU, s1, s2, _⟩ := w1.both own2 ra.is b3 (b2.keep ra2.is)
    have b03 := b2.trans b3
    have nT : H T = none := b03.free ra3.is hT
    obtain ⟨u1, u2⟩ := ownU.tup (o := .tup [.ref l, .ref t2]) hT nT
    refine k (⟨us, mo⟩ : BranchT) y3 (by show Option.map _ (readMove n y2) = _; rw [hm]; rfl) _ _ T (b03.new hT) (ra3.same ((Same.refl H3).new hT)) u1 ⟨l, t2, upd_same, ?_, ?_⟩
    · exact ⟨ts, u2 _ _ (s1 _ _ upd_same), et.mono fun _ _ z => u2 _ _ (s1 _ _ (w2 _ _ z))⟩
    · exact MoveAt.same hM (s2.trans u2)
/-! ## read_piece -/
abbrev sReadPiece : Stmt := top 61
theorem scReadPiece : FnScope ["reader", "counters", "many", "branches", "j"] ["reader", "counters"] (defScope sReadPiece) := ⟨rfl, rfl, rfl, by decide +kernel, rfl, by decide +kernel, by decide +kernel⟩
theorem ok_read_piece (G : NamesOf mg) (TReader : RdrOf K mg CR) (DReaderTake : DefM P w K mg base (L2.CX P w) 1 CR "take" ["self", "lo", "hi"] (spTake CR CN) f1 d1)
    (DReadBranch : Def P w K mg base (L2.CX P w) 4 "read_branch" ["reader", "counters"] (spRd CR CN readBranch BranchAt) f2 d2) (DReadMove : Def P w K mg base (L2.CX P w) 3 "read_move" ["reader", "counters"] (spRd CR CN readMove MoveAt) f3 d3)
    {f : Addr} {fd : FuncData} (F : Fun K "read_piece" "read_piece" sReadPiece f fd) : FnOk P w K mg base (L2.CX P w) 5 f fd ["reader", "counters"] (spRd CR CN readPiece PieceAt) := by
  refine F.okX scReadPiece (fun vs H Q E h => ?_) (fun cdv A outer s H vs Q E hr h => ⟨_, pss_cons (ps_if (pt_cmp (pc_eqI (pe_meth (pv 0) TReader.cl DReaderTake.meth DReaderTake.ok (hr.mono (by decide)) DReaderTake.b .nil (passes_call (takes_of rfl rfl rfl rfl) (fun _ _ _ _ h => h)) (pa_cons pe_int (pa_cons pe_int pa_nil))) pe_int)) (pss_one (ps_ret (pe_tup (pa_cons pe_int (pa_cons (pe_call DReadMove.ok (hr.mono (by decide)) rfl DReadMove.m DReadMove.kp DReadMove.b .nil (passes_call (takes_of rfl rfl rfl rfl) (fun _ _ _ _ h => h)) (pa_cons (pv 0) (pa_cons (pv 1) pa_nil))) (pa_cons (pe_lst pa_nil) pa_nil)))))) pss_nil) (pss_cons (ps_set (i := 2) scReadPiece.nd rfl (.inl rfl) (pe_meth (pv 0) TReader.cl DReaderTake.meth DReaderTake.ok (hr.mono (by decide)) DReaderTake.b .nil (passes_call (takes_of rfl rfl rfl rfl) (fun _ _ _ _ h => h)) (pa_cons pe_int (pa_cons pe_int pa_nil)))) (pss_cons (ps_set (i := 3) scReadPiece.nd rfl (.inl rfl) (pe_lst pa_nil)) (pss_cons (ps_for (passes_of rfl) rfl (pi_range1 rfl G.range (pa_cons (pv 2) pa_nil)) (pg_name (i := 4) scReadPiece.nd rfl (.inl rfl)) (pss_one (ps_expr (pe_bm PySem.F.plainAttrs_list PySem.F.slot_list_append PySem.F.type_list_append mt_append (pv 3) (pa_cons (pe_call DReadBranch.ok (hr.mono (by decide)) rfl DReadBranch.m DReadBranch.kp DReadBranch.b .nil (passes_call (takes_of rfl rfl rfl rfl) (fun _ _ _ _ h => h)) (pa_cons (pv 0) (pa_cons (pv 1) pa_nil))) pa_nil))))) (pss_one (ps_ret (pe_tup (pa_cons pe_int (pa_cons (pe_lst pa_nil) (pa_cons (pv 3) pa_nil))))))))), ?_⟩)
  · obtain ⟨a, nl, n, x, rfl, _⟩ := h
    rfl
  · obtain ⟨a, nl, n, x, rfl, ra, n1, n4, kE, k⟩ := h
    rw [piece_eq] at kE k
    unfold pieceSeq at kE k
    obtain ⟨dx, nums, k0, r1, _⟩ := id ra
    refine ⟨_, rfl, a, dx, rF nl k0, rfl, r1, rF_take nl k0, a, nl, 0, 1, x, rfl, ra, fun hn => kE (by rw [hn]; rfl) H (But.refl a H), fun z y hz H1 b1 ra1 => ?_⟩
    rw [hz] at kE k
    have zb := (readInt_some hz).2
    have kE : (if z = 0 then (readMove n y).map fun v => ((.move v.1, v.2) : PieceT × List Int) else (readLoop n y).map fun v => (.loop v.1, v.2)) = none → ∀ H', But a H H' → E (.ref CN) none H' := kE
    have k : ∀ u y', (if z = 0 then (readMove n y).map fun v => ((.move v.1, v.2) : PieceT × List Int) else (readLoop n y).map fun v => (.loop v.1, v.2)) = some (u, y') → ∀ (H' J : Hp) (t : Addr), But a H H' → ReaderAt CR nl H' a y' → Own H J H' → PieceAt J t u → Q (.ref t) H' := k
    refine ⟨_, _, rfl, rfl, _, rfl, ?_⟩
    by_cases c : z = 0
    · rw [if_pos c] at kE
      simp only [if_pos c] at k
      refine tru (decide_eq_true c) ?_
      refine ⟨_, rfl, _, rfl, a, nl, n, y, rfl, ra1, n1, n4, fun hn H2 b2 => kE (by rw [hn]; rfl) H2 (b1.trans b2), fun mo y2 hm H2 J2 t2 b2 ra2 own2 hM => ?_⟩
      refine ⟨by show 0 ≤ sizeLine; decide, fun p hp => ⟨by show 3 ≤ sizeLine; decide, fun T hT => ?_⟩⟩
      have b02 := b1.trans b2
      have e3 : Same H2 (upd H2 p (.lst [])) := (Same.refl H2).new hp
      have ra3 := ra2.same e3
      have b03 : But a H (upd H2 p (.lst [])) := b02.new hp
      have nT : H T = none := b03.free ra3.is hT
      have keep := b1.keep ra1.is
      have ownH : Own H J2 (upd H2 p (.lst [])) := ⟨own2.1.trans e3, fun b o hb => by
        obtain ⟨o', h'⟩ := keep b o hb
        exact own2.2 b o' h'⟩
      obtain ⟨u1, u2⟩ := ownH.tup (o := .tup [.int 0, .ref t2, .ref p]) hT nT
      exact k (.move mo) y2 (by rw [hm]; rfl) _ _ T (b03.new hT) (ra3.same ((Same.refl _).new hT)) u1 ⟨t2, p, upd_same, MoveAt.same hM u2⟩
    · rw [if_neg c, loop_eq] at kE
      simp only [if_neg c, loop_eq] at k
      unfold listedSeq at kE k
      refine fls (decide_eq_false c) ?_
      obtain ⟨dx1, nums1, k1, q1, _⟩ := id ra1
      refine ⟨_, rfl, a, dx1, rF nl k1, rfl, q1, rF_take nl k1, a, nl, 1, 3, y, rfl, ra1, fun hn => kE (by rw [hn]; rfl) H1 b1, fun mv y1 hmv H2 b2 ra2 => ?_⟩
      rw [hmv] at kE k
      have mb := (readInt_some hmv).2
      obtain ⟨m, rfl⟩ : ∃ m : Nat, mv = m := ⟨mv.toNat, by omega⟩
      have kE : Option.map (fun v : List BranchT × List Int => ((.loop v.1, v.2) : PieceT × List Int)) (readTimes (readBranch n) m y1) = none → ∀ H', But a H H' → E (.ref CN) none H' := kE
      have k : ∀ u y', Option.map (fun v : List BranchT × List Int => ((.loop v.1, v.2) : PieceT × List Int)) (readTimes (readBranch n) m y1) = some (u, y') → ∀ (H' J : Hp) (t : Addr), But a H H' → ReaderAt CR nl H' a y' → Own H J H' → PieceAt J t u → Q (.ref t) H' := k
      refine ⟨by show 0 ≤ sizeLine; decide, fun l hl => ?_⟩
      have b02 := b1.trans b2
      have nl0 : H l = none := b02.free ra2.is hl
      refine read_loop (rd := readBranch) (R := BranchAt) (fun J U t u e h => BranchAt.same h e) (H0 := H) (a := a) (l := l) (n := n) (k := m) (x := y1) (ia := 0) (inn := 1) (il := 3) (im := 2) (ij := 4) rfl rfl rfl rfl (by decide) (by decide) (by decide) ⟨n1, n4⟩ (by omega)
        (ra2.same ((Same.refl H2).new hl)) ra.nums upd_same nl0 (b02.new hl) ra.is (fun hn => kE (by rw [hn]; rfl)) (fun us y2 hs σ' H3 J ts hσ b3 ra3 hL own jl et => ?_)
      obtain ⟨w1, w2⟩ := own.wrap hL nl0 jl
      have slot : σ'[3]? = some (some (.ref l)) := by
        rcases hσ with rfl | ⟨v', rfl⟩
        · rfl
        · rfl
      refine ⟨by show 0 ≤ sizeLine; decide, fun p hp => ⟨_, slot, by show 3 ≤ sizeLine; decide, fun T hT => ?_⟩⟩
      have e4 : Same H3 (upd H3 p (.lst [])) := (Same.refl H3).new hp
      have b04 : But a H (upd H3 p (.lst [])) := b3.new hp
      have ra4 := ra3.same e4
      have nT : H T = none := b04.free ra4.is hT
      have w3 : Own H _ (upd H3 p (.lst [])) := ⟨w1.1.trans e4, w1.2⟩
      obtain ⟨u1, u2⟩ := w3.tup (o := .tup [.int 1, .ref p, .ref l]) hT nT
      exact k (.loop us) y2 (by rw [hs]; rfl) _ _ T (b04.new hT) (ra4.same ((Same.refl _).new hT)) u1 ⟨p, l, upd_same, ts, u2 _ _ upd_same, et.mono fun _ _ z => BranchAt.same z (w2.trans u2)⟩
/-! ## read_program -/
abbrev sReadProgram : Stmt := top 62
theorem scReadProgram : FnScope ["numbers", "reader", "counters", "many", "pieces", "j"] ["numbers"] (defScope sReadProgram) := ⟨rfl, rfl, rfl, by decide +kernel, rfl, by decide +kernel, by decide +kernel⟩
theorem whole_some {A : Type} {rd : Rd A} {x : List Int} {u : A} (h : rd x = some (u, [])) : VaaclBase.whole rd x = some u := by
  unfold VaaclBase.whole
  rw [h]
theorem whole_none {A : Type} {rd : Rd A} {x : List Int} (h : rd x = none) : VaaclBase.whole rd x = none := by
  unfold VaaclBase.whole
  rw [h]
theorem whole_rest {A : Type} {rd : Rd A} {x y : List Int} {u : A} (h : rd x = some (u, y)) (hy : y ≠ []) : VaaclBase.whole rd x = none := by
  unfold VaaclBase.whole
  rw [h]
  cases y with
  | nil => exact absurd rfl hy
  | cons a r => rfl
def spReadProgram (CN : Addr) : Sp := fun vs H Q E => ∃ (nl : Addr) (nums : List Int), vs = [.ref nl] ∧ IsI H nl nums ∧ (VaaclBase.whole readProgram nums = none → ∀ H' : Hp, Same H H' → E (.ref CN) none H') ∧
  ∀ p, VaaclBase.whole readProgram nums = some p → ∀ (H' J : Hp) (t : Addr), Same H H' → Own H J H' → ProgAt J t p → Q (.ref t) H'
theorem ok_read_program (G : NamesOf mg) (TReader : RdrOf K mg CR) (TNot : NotOf K mg CN) (MReader : Mk K CR f4) (DReaderInit : DefM P w K mg base CX0 1 CR "__init__" ["self", "numbers"] (spReaderInit CR) f4 d4)
    (DReaderTake : DefM P w K mg base (L2.CX P w) 1 CR "take" ["self", "lo", "hi"] (spTake CR CN) f1 d1) (DReaderIsDone : DefM P w K mg base CX0 1 CR "is_done" ["self"] (spIsDone CR) f5 d5)
    (DReadPiece : Def P w K mg base (L2.CX P w) 5 "read_piece" ["reader", "counters"] (spRd CR CN readPiece PieceAt) f2 d2)
    {f : Addr} {fd : FuncData} (F : Fun K "read_program" "read_program" sReadProgram f fd) : FnOk P w K mg base (L2.CX P w) 6 f fd ["numbers"] (spReadProgram CN) := by
  refine F.okX scReadProgram (fun vs H Q E h => ?_) (fun cdv A outer s H vs Q E hr h => ⟨_, pss_cons (ps_set (i := 1) scReadProgram.nd rfl (.inl rfl) (pe_make MReader DReaderInit.ok (hr.mono (by decide)) rfl TReader.g DReaderInit.b .nil pass0 (pa_cons (pv 0) pa_nil))) (pss_cons (ps_set (i := 2) scReadProgram.nd rfl (.inl rfl) (pe_meth (pv 1) TReader.cl DReaderTake.meth DReaderTake.ok (hr.mono (by decide)) DReaderTake.b .nil (passes_call (takes_of rfl rfl rfl rfl) (fun _ _ _ _ h => h)) (pa_cons pe_int (pa_cons pe_int pa_nil)))) (pss_cons (ps_set (i := 3) scReadProgram.nd rfl (.inl rfl) (pe_meth (pv 1) TReader.cl DReaderTake.meth DReaderTake.ok (hr.mono (by decide)) DReaderTake.b .nil (passes_call (takes_of rfl rfl rfl rfl) (fun _ _ _ _ h => h)) (pa_cons pe_int (pa_cons pe_int pa_nil)))) (pss_cons (ps_set (i := 4) scReadProgram.nd rfl (.inl rfl) (pe_lst pa_nil)) (pss_cons (ps_for (passes_of rfl) rfl (pi_range1 rfl G.range (pa_cons (pv 3) pa_nil)) (pg_name (i := 5) scReadProgram.nd rfl (.inl rfl)) (pss_one (ps_expr (pe_bm PySem.F.plainAttrs_list PySem.F.slot_list_append PySem.F.type_list_append mt_append (pv 4) (pa_cons (pe_call DReadPiece.ok (hr.mono (by decide)) rfl DReadPiece.m DReadPiece.kp DReadPiece.b .nil (passes_call (takes_of rfl rfl rfl rfl) (fun _ _ _ _ h => h)) (pa_cons (pv 1) (pa_cons (pv 2) pa_nil))) pa_nil))))) (pss_cons (ps_if (pt_not (pt_val (pe_meth0 (pv 1) TReader.cl DReaderIsDone.meth DReaderIsDone.ok (hr.mono (by decide)) DReaderIsDone.b .nil pass0))) (pss_one (ps_raise rfl (takes_of rfl rfl rfl rfl) (pmk_own PySem.F.excBase_Exception TNot.x TNot.g TNot.k (raises_own TNot.b TNot.t) (by exact rfl)))) pss_nil) (pss_one (ps_ret (pe_tup (pa_cons (pv 2) (pa_cons (pv 4) pa_nil)))))))))), ?_⟩)
  · obtain ⟨nl, nums, rfl, _⟩ := h
    rfl
  · obtain ⟨nl, nums, rfl, hn, kE, k⟩ := h
    refine ⟨_, rfl, fun a dx na nd ne => ?_⟩
    have nla : nl ≠ a := ne_of_none hn na
    have nld : nl ≠ dx := ne_of_none hn nd
    refine ⟨a, dx, nl, nums, rfl, upd_same, (upd_ne nla).trans ((upd_ne nld).trans hn), fun H1 bt ra1 => ⟨rfl, ?_⟩⟩
    have s1 : Same H H1 := Same.made na nd fun b o h hb => bt b o hb h
    have back : ∀ H' : Hp, But a H1 H' → Same H H' := fun H' b c o hc => b c o (fun z => by
      rw [z, na] at hc
      cases hc) (s1 c o hc)
    obtain ⟨dx1, nums1, k1, q1, _⟩ := id ra1
    have pe := program_eq nums
    unfold programSeq listedSeq at pe
    refine ⟨_, rfl, a, dx1, rF nl k1, rfl, q1, rF_take nl k1, a, nl, 1, 4, nums, rfl, ra1, fun hnn => kE (whole_none (by rw [pe, hnn]; rfl)) H1 s1, fun nv y hnv H2 b2 ra2 => ?_⟩
    rw [hnv] at pe
    have nb := (readInt_some hnv).2
    obtain ⟨n, rfl⟩ : ∃ n : Nat, nv = n := ⟨nv.toNat, by omega⟩
    obtain ⟨dx2, nums2, k2, q2, _⟩ := id ra2
    have pe : readProgram nums = Option.map (fun u : List PieceT × List Int => ((⟨n, u.1⟩, u.2) : ProgT × List Int)) ((readInt 0 5 y).bind fun u => readTimes (readPiece n) u.1.toNat u.2) := pe
    refine ⟨_, rfl, a, dx2, rF nl k2, rfl, q2, rF_take nl k2, a, nl, 0, 5, y, rfl, ra2, fun hnn => kE (whole_none (by rw [pe, hnn]; rfl)) H2 (back _ b2), fun mv y2 hmv H3 b3 ra3 => ?_⟩
    rw [hmv] at pe
    have mb := (readInt_some hmv).2
    obtain ⟨m, rfl⟩ : ∃ m : Nat, mv = m := ⟨mv.toNat, by omega⟩
    have pe : readProgram nums = Option.map (fun u : List PieceT × List Int => ((⟨n, u.1⟩, u.2) : ProgT × List Int)) (readTimes (readPiece n) m y2) := pe
    refine ⟨by show 0 ≤ sizeLine; decide, fun l hl => ?_⟩
    have b13 := b2.trans b3
    have nl1 : H1 l = none := b13.free ra3.is hl
    refine read_loop (rd := readPiece) (R := PieceAt) (fun J U t u e h => PieceAt.same h e) (H0 := H1) (a := a) (l := l) (n := n) (k := m) (x := y2) (ia := 1) (inn := 2) (il := 4) (im := 3) (ij := 5) rfl rfl rfl rfl (by decide) (by decide) (by decide) ⟨by omega, by omega⟩ (by omega)
      (ra3.same ((Same.refl H3).new hl)) ra1.nums upd_same nl1 (b13.new hl) ra1.is (fun hn H' b => kE (whole_none (by rw [pe, hn]; rfl)) H' (back _ b)) (fun us y3 hs σ' H4 J ts hσ b4 ra4 hL own jl et => ?_)
    rw [hs] at pe
    have pe : readProgram nums = some (⟨n, us⟩, y3) := pe
    have slot : ∀ i v, i < 5 → [some (V.ref nl), some (.ref a), some (.int (n : Nat)), some (.int (m : Nat)), some (.ref l), none][i]? = some v → σ'[i]? = some v := fun i v hi h => by
      rcases hσ with rfl | ⟨v', rfl⟩
      · exact h
      · exact (List.getElem?_set_ne (by omega)).trans h
    obtain ⟨dx4, nums4, k4, q4, _⟩ := id ra4
    refine ⟨_, slot 1 _ (by decide) rfl, a, dx4, rF nl k4, rfl, q4, rF_done nl k4, a, nl, y3, rfl, ra4, _, rfl, ?_⟩
    by_cases c : y3 = []
    · refine fls (by rw [decide_eq_true c]; rfl) ?_
      rw [c] at pe
      refine ⟨_, slot 2 _ (by decide) rfl, _, slot 4 _ (by decide) rfl, by show 2 ≤ sizeLine; decide, fun T hT => ?_⟩
      have nT : H1 T = none := b4.free ra4.is hT
      obtain ⟨w1, w2⟩ := own.wrap hL nl1 jl
      obtain ⟨u1, u2⟩ := w1.tup (o := .tup [.int (n : Nat), .ref l]) hT nT
      refine k ⟨n, us⟩ (whole_some pe) _ _ T (back _ (b4.new hT)) ⟨u1.1, fun b o hb => u1.2 b o (s1 b o hb)⟩ ⟨l, upd_same, ts, u2 _ _ upd_same, et.mono fun _ _ z => PieceAt.same z (w2.trans u2)⟩
    · refine tru (by rw [decide_eq_false c]; rfl) ?_
      exact kE (whole_rest pe c) H4 (back _ b4)
end
end Lp
namespace Lp
open PySem PySem.Spec PyProof.Rows L2
open VaaclBase (Values)
open Vaacle (Leap Leapt howTold boxOf leapTold)
/-! ## What is refused -/
def whichNo (k : Int) : Int := if k ≠ 0 ∧ k ≠ 1 then -2 else 0
def pieceNo (p : ProgT) (k : Int) : Int := if k < 0 ∨ ((p.pieces.length : Nat) : Int) ≤ k then -4 else 0
def manyNo (n : Nat) (l : List Int) : Int := if l.length ≠ n then -5 else 0
def inRange (v : Int) : Bool := decide (-1000000 ≤ v) && decide (v ≤ 1000000)
def valuesNo (n : Nat) (l : List Int) : Int := if l.all inRange = true then manyNo n l else -5
def boxNo (n : Nat) (lo hi : Int) : Int := if lo < -1000000 ∨ 1000000 < hi ∨ hi < lo then -3 else if 16 < (hi - lo + 1).toNat ^ n then -7 else 0
section
variable {P : Program} {w : World} {K : PySem.W.Frag} {mg : Str → Option Value} {base : Heap} {f1 f2 f3 f4 f5 : Addr} {d1 d2 d3 d4 d5 : FuncData}
abbrev sWhichRefused : Stmt := top 66
theorem scWhichRefused : FnScope ["which"] ["which"] (defScope sWhichRefused) := ⟨rfl, rfl, rfl, by decide +kernel, rfl, by decide +kernel, by decide +kernel⟩
def spWhichRefused : Sp := fun vs H Q _ => ∃ k : Int, vs = [.int k] ∧ Q (.int (whichNo k)) H
theorem ok_which_refused {f : Addr} {fd : FuncData} (F : Fun K "which_refused" "which_refused" sWhichRefused f fd) : FnOk P w K mg base CX0 1 f fd ["which"] spWhichRefused := by
  refine F.ok scWhichRefused (fun vs H Q E h => ?_) (fun cdv A outer s H vs Q E hr h => ⟨_, pss_cons (ps_if (PW.pt (pw_and (pt_cmp (pc_neI (pv 0) pe_int)) (pw_and1 (pt_cmp (pc_neI (pv 0) pe_int))))) (pss_one (ps_ret (pe_un un_neg pe_int))) pss_nil) (pss_one (ps_ret pe_int)), ?_⟩)
  · obtain ⟨k, rfl, _⟩ := h
    rfl
  · obtain ⟨n, rfl, k⟩ := h
    unfold whichNo at k
    refine ⟨_, rfl, _, _, rfl, rfl, _, rfl, ?_⟩
    by_cases c0 : n = 0
    · rw [if_neg (fun h => h.1 c0)] at k
      exact fls (neF c0) (fls rfl k)
    · refine tru (neT c0) ⟨_, rfl, _, _, rfl, rfl, _, rfl, ?_⟩
      by_cases c1 : n = 1
      · rw [if_neg (fun h => h.2 c1)] at k
        exact fls (neF c1) k
      · rw [if_pos ⟨c0, c1⟩] at k
        exact tru (neT c1) ⟨_, rfl, k⟩
abbrev sPieceRefused : Stmt := top 67
theorem scPieceRefused : FnScope ["program", "at"] ["program", "at"] (defScope sPieceRefused) := ⟨rfl, rfl, rfl, by decide +kernel, rfl, by decide +kernel, by decide +kernel⟩
def spPieceRefused : Sp := fun vs H Q _ => ∃ (a : Addr) (p : ProgT) (k : Int), vs = [.ref a, .int k] ∧ ProgAt H a p ∧ Q (.int (pieceNo p k)) H
theorem ok_piece_refused (G : NamesOf mg) {f : Addr} {fd : FuncData} (F : Fun K "piece_refused" "piece_refused" sPieceRefused f fd) : FnOk P w K mg base CX0 1 f fd ["program", "at"] spPieceRefused := by
  refine F.ok scPieceRefused (fun vs H Q E h => ?_) (fun cdv A outer s H vs Q E hr h => ⟨_, pss_cons (ps_if (PW.pt (pw_or (pt_cmp (pc_lt (pv 1) pe_int)) (pw_or1 (pt_cmp (pc_ge (pv 1) (pe_callB call_len_seq (by rfl) G.len PySem.boot_len (pa_cons (pe_ix ix_tup (pv 0) pe_int (fun _ _ => rfl)) pa_nil))))))) (pss_one (ps_ret (pe_un un_neg pe_int))) pss_nil) (pss_one (ps_ret pe_int)), ?_⟩)
  · obtain ⟨a, p, k, rfl, _⟩ := h
    rfl
  · obtain ⟨a, p, n, rfl, ⟨pl, hX, ts, hpl, et⟩, k⟩ := h
    unfold pieceNo at k
    have hlen : (ts.map V.ref).length = p.pieces.length := by rw [List.length_map, et.length]
    refine ⟨_, rfl, _, _, rfl, rfl, _, rfl, ?_⟩
    by_cases c0 : n < 0
    · rw [if_pos (.inl c0)] at k
      exact tru (decide_eq_true c0) (tru rfl ⟨_, rfl, k⟩)
    · refine fls (decide_eq_false c0) ⟨_, rfl, _, rfl, a, _, _, _, rfl, rfl, SqT.of hX, atI_nat (j := 1) rfl, pl, _, rfl, .inl (SqL.of hpl), _, _, rfl, rfl, _, rfl, ?_⟩
      rw [hlen]
      by_cases c1 : ((p.pieces.length : Nat) : Int) ≤ n
      · rw [if_pos (.inr c1)] at k
        exact tru (decide_eq_true c1) ⟨_, rfl, k⟩
      · rw [if_neg (fun h => h.elim c0 c1)] at k
        exact fls (decide_eq_false c1) k
abbrev sManyRefused : Stmt := top 68
theorem scManyRefused : FnScope ["counters", "values"] ["counters", "values"] (defScope sManyRefused) := ⟨rfl, rfl, rfl, by decide +kernel, rfl, by decide +kernel, by decide +kernel⟩
def spManyRefused : Sp := fun vs H Q _ => ∃ (a : Addr) (n : Nat) (l : List Int), vs = [.int (n : Nat), .ref a] ∧ IsI H a l ∧ Q (.int (manyNo n l)) H
theorem ok_many_refused (G : NamesOf mg) {f : Addr} {fd : FuncData} (F : Fun K "many_refused" "many_refused" sManyRefused f fd) : FnOk P w K mg base CX0 1 f fd ["counters", "values"] spManyRefused := by
  refine F.ok scManyRefused (fun vs H Q E h => ?_) (fun cdv A outer s H vs Q E hr h => ⟨_, pss_cons (ps_if (pt_cmp (pc_neI (pe_callB call_len_seq (by rfl) G.len PySem.boot_len (pa_cons (pv 1) pa_nil)) (pv 0))) (pss_one (ps_ret (pe_un un_neg pe_int))) pss_nil) (pss_one (ps_ret pe_int)), ?_⟩)
  · obtain ⟨a, n, l, rfl, _⟩ := h
    rfl
  · obtain ⟨a, n, l, rfl, ha, k⟩ := h
    unfold manyNo at k
    refine ⟨_, rfl, a, _, rfl, .inl (SqL.of ha), _, rfl, _, _, rfl, rfl, _, rfl, ?_⟩
    rw [List.length_map]
    by_cases c : l.length = n
    · rw [if_neg (fun h => h c)] at k
      exact fls (neF (by rw [c])) k
    · rw [if_pos c] at k
      exact tru (neT (by omega)) ⟨_, rfl, k⟩
abbrev sValuesRefused : Stmt := top 69
theorem scValuesRefused : FnScope ["counters", "values", "value"] ["counters", "values"] (defScope sValuesRefused) := ⟨rfl, rfl, rfl, by decide +kernel, rfl, by decide +kernel, by decide +kernel⟩
def spValuesRefused : Sp := fun vs H Q _ => ∃ (a : Addr) (n : Nat) (l : List Int), vs = [.int (n : Nat), .ref a] ∧ IsI H a l ∧ ∀ H' : Hp, Same H H' → Q (.int (valuesNo n l)) H'
theorem ok_values_refused (G : NamesOf mg) (DManyRefused : Def P w K mg base CX0 1 "many_refused" ["counters", "values"] spManyRefused f1 d1)
    {f : Addr} {fd : FuncData} (F : Fun K "values_refused" "values_refused" sValuesRefused f fd) : FnOk P w K mg base CX0 2 f fd ["counters", "values"] spValuesRefused := by
  refine F.ok scValuesRefused (fun vs H Q E h => ?_) (fun cdv A outer s H vs Q E hr h => ⟨_, pss_cons (ps_for PassesOwn.never rfl (pi_list (pv 1)) (pg_name (i := 2) scValuesRefused.nd rfl (.inl rfl)) (pss_one (ps_if (PW.pt (pw_or (pt_cmp (pc_lt (pv 2) (pe_un un_neg (pe_gint rfl G.NEAR)))) (pw_or1 (pt_cmp (pc_gt (pv 2) (pe_gint rfl G.NEAR)))))) (pss_one (ps_ret (pe_un un_neg pe_int))) pss_nil))) (pss_one (ps_ret (pe_call DManyRefused.ok (hr.mono (by decide)) rfl DManyRefused.m DManyRefused.kp DManyRefused.b .nil pass0 (pa_cons (pv 0) (pa_cons (pv 1) pa_nil))))), ?_⟩)
  · obtain ⟨a, n, l, rfl, _⟩ := h
    rfl
  · obtain ⟨a, n, l, rfl, ha, k⟩ := h
    unfold valuesNo at k
    refine ⟨_, rfl, a, rfl, ⟨_, SqL.of ha⟩, for_list (K := K) (a := a) (xs := l.map V.int) (fun i σ H' => (∃ v : Option V, σ = [some (.int (n : Nat)), some (.ref a), v]) ∧ Same H H' ∧ (l.take i).all inRange = true)
      ⟨⟨none, rfl⟩, Same.refl H, rfl⟩ (fun i σ H' _ ⟨_, e, _⟩ => SqL.of (e _ _ ha)) ?_ ?_⟩
    · rintro i y σ H' hi ⟨⟨v, rfl⟩, e, hn⟩
      obtain ⟨z, hz, rfl⟩ := map_get hi
      have bad : inRange z = false → Q (.int (-5)) H' := fun hb => by
        have := k H' e
        rw [if_neg (fun h => by
          rw [List.all_eq_true] at h
          have := h z (List.mem_of_getElem? hz)
          rw [hb] at this
          cases this)] at this
        exact this
      refine ⟨_, rfl, _, rfl, _, _, rfl, rfl, _, rfl, ?_⟩
      by_cases c1 : z < -1000000
      · refine tru (decide_eq_true c1) (tru rfl ⟨_, rfl, bad ?_⟩)
        unfold inRange
        rw [decide_eq_false (by omega), Bool.false_and]
      · refine fls (decide_eq_false c1) ⟨_, rfl, _, _, rfl, rfl, _, rfl, ?_⟩
        by_cases c2 : z > 1000000
        · refine tru (decide_eq_true c2) ⟨_, rfl, bad ?_⟩
          unfold inRange
          rw [decide_eq_false (show ¬ z ≤ 1000000 by omega), Bool.and_false]
        · refine fls (decide_eq_false c2) ⟨⟨_, rfl⟩, e, ?_⟩
          rw [take_more hz, List.all_append, hn]
          show (true && (inRange z && true)) = true
          unfold inRange
          rw [decide_eq_true (show -1000000 ≤ z by omega), decide_eq_true (show z ≤ 1000000 by omega)]
          rfl
    · rintro σ H' ⟨⟨v, rfl⟩, e, hn⟩
      rw [List.length_map, List.take_length] at hn
      have := k H' e
      rw [if_pos hn] at this
      exact ⟨_, rfl, _, rfl, a, n, l, rfl, ha.same e, this⟩
abbrev sCountersRefused : Stmt := top 70
theorem scCountersRefused : FnScope ["first", "second"] ["first", "second"] (defScope sCountersRefused) := ⟨rfl, rfl, rfl, by decide +kernel, rfl, by decide +kernel, by decide +kernel⟩
def countersNo (p q : ProgT) : Int := if p.counters ≠ q.counters then -6 else 0
def spCountersRefused : Sp := fun vs H Q _ => ∃ (a b : Addr) (p q : ProgT), vs = [.ref a, .ref b] ∧ ProgAt H a p ∧ ProgAt H b q ∧ Q (.int (countersNo p q)) H
theorem ok_counters_refused {f : Addr} {fd : FuncData} (F : Fun K "counters_refused" "counters_refused" sCountersRefused f fd) : FnOk P w K mg base CX0 1 f fd ["first", "second"] spCountersRefused := by
  refine F.ok scCountersRefused (fun vs H Q E h => ?_) (fun cdv A outer s H vs Q E hr h => ⟨_, pss_cons (ps_if (pt_cmp (pc_neI (pe_ix ix_tup (pv 0) pe_int (fun _ _ => rfl)) (pe_ix ix_tup (pv 1) pe_int (fun _ _ => rfl)))) (pss_one (ps_ret (pe_un un_neg pe_int))) pss_nil) (pss_one (ps_ret pe_int)), ?_⟩)
  · obtain ⟨a, b, p, q, rfl, _⟩ := h
    rfl
  · obtain ⟨a, b, p, q, rfl, ⟨pl, hX, _⟩, ⟨ql, hY, _⟩, k⟩ := h
    unfold countersNo at k
    refine ⟨_, rfl, a, _, _, _, rfl, rfl, SqT.of hX, atI_nat (j := 0) rfl, _, rfl, b, _, _, _, rfl, rfl, SqT.of hY, atI_nat (j := 0) rfl, _, _, rfl, rfl, _, rfl, ?_⟩
    by_cases c : p.counters = q.counters
    · rw [if_neg (fun h => h c)] at k
      exact fls (neF (by rw [c])) k
    · rw [if_pos c] at k
      exact tru (neT (by omega)) ⟨_, rfl, k⟩
abbrev sBoxSize : Stmt := top 71
theorem scBoxSize : FnScope ["counters", "lo", "hi", "size", "j"] ["counters", "lo", "hi"] (defScope sBoxSize) := ⟨rfl, rfl, rfl, by decide +kernel, rfl, by decide +kernel, by decide +kernel⟩
def spBoxSize : Sp := fun vs H Q _ => ∃ (n : Nat) (lo hi : Int), vs = [.int (n : Nat), .int lo, .int hi] ∧ n ≤ 4 ∧ -1000000 ≤ lo ∧ lo ≤ hi ∧ hi ≤ 1000000 ∧ Q (.int (((hi - lo + 1).toNat ^ n : Nat) : Int)) H
theorem ok_box_size (G : NamesOf mg) {f : Addr} {fd : FuncData} (F : Fun K "box_size" "box_size" sBoxSize f fd) : FnOk P w K mg base CX0 1 f fd ["counters", "lo", "hi"] spBoxSize := by
  refine F.ok scBoxSize (fun vs H Q E h => ?_) (fun cdv A outer s H vs Q E hr h => ⟨_, pss_cons (ps_set (i := 3) scBoxSize.nd rfl (.inl rfl) pe_int) (pss_cons (ps_for PassesOwn.never rfl (pi_range1 rfl G.range (pa_cons (pv 0) pa_nil)) (pg_name (i := 4) scBoxSize.nd rfl (.inl rfl)) (pss_one (ps_set (i := 3) scBoxSize.nd rfl (.inl rfl) (pe_op op_mul (pv 3) (pe_op op_add (pe_op op_sub (pv 2) (pv 1)) pe_int))))) (pss_one (ps_ret (pv 3)))), ?_⟩)
  · obtain ⟨n, lo, hi, rfl, _⟩ := h
    rfl
  · obtain ⟨n, lo, hi, rfl, n4, h1, h2, h3, k⟩ := h
    refine ⟨_, rfl, _, rfl, by omega, by omega, ?_⟩
    rw [Int.toNat_natCast]
    refine for_range (lo := 0) (n := n) (fun i σ H' => (∃ v : Option V, σ = [some (.int (n : Nat)), some (.int lo), some (.int hi), some (.int (((hi - lo + 1).toNat ^ i : Nat) : Int)), v]) ∧ H' = H)
      ⟨⟨none, rfl⟩, rfl⟩ ?_ ?_
    · rintro i σ H' hi' ⟨⟨v, rfl⟩, rfl⟩
      refine ⟨_, rfl, _, rfl, _, rfl, _, _, rfl, rfl, _, _, rfl, rfl, _, _, rfl, rfl, .inr ⟨by omega, by omega⟩, ⟨some (.int (0 + (i : Nat))), ?_⟩, rfl⟩
      rw [Nat.pow_succ, Int.natCast_mul, Int.toNat_of_nonneg (by omega)]
      rfl
    · rintro σ H' ⟨⟨v, rfl⟩, rfl⟩
      exact ⟨_, rfl, k⟩
abbrev sBoxRefused : Stmt := top 72
theorem scBoxRefused : FnScope ["counters", "lo", "hi"] ["counters", "lo", "hi"] (defScope sBoxRefused) := ⟨rfl, rfl, rfl, by decide +kernel, rfl, by decide +kernel, by decide +kernel⟩
def spBoxRefused : Sp := fun vs H Q _ => ∃ (n : Nat) (lo hi : Int), vs = [.int (n : Nat), .int lo, .int hi] ∧ n ≤ 4 ∧ Q (.int (boxNo n lo hi)) H
theorem ok_box_refused (G : NamesOf mg) (DBoxSize : Def P w K mg base CX0 1 "box_size" ["counters", "lo", "hi"] spBoxSize f1 d1)
    {f : Addr} {fd : FuncData} (F : Fun K "box_refused" "box_refused" sBoxRefused f fd) : FnOk P w K mg base CX0 2 f fd ["counters", "lo", "hi"] spBoxRefused := by
  refine F.ok scBoxRefused (fun vs H Q E h => ?_) (fun cdv A outer s H vs Q E hr h => ⟨_, pss_cons (ps_if (PW.pt (pw_or (pt_cmp (pc_lt (pv 1) (pe_un un_neg (pe_gint rfl G.NEAR)))) (pw_or (pt_cmp (pc_gt (pv 2) (pe_gint rfl G.NEAR))) (pw_or1 (pt_cmp (pc_lt (pv 2) (pv 1))))))) (pss_one (ps_ret (pe_un un_neg pe_int))) pss_nil) (pss_cons (ps_if (pt_cmp (pc_gt (pe_call DBoxSize.ok (hr.mono (by decide)) rfl DBoxSize.m DBoxSize.kp DBoxSize.b .nil pass0 (pa_cons (pv 0) (pa_cons (pv 1) (pa_cons (pv 2) pa_nil)))) (pe_gint rfl G.MOST_INPUTS))) (pss_one (ps_ret (pe_un un_neg pe_int))) pss_nil) (pss_one (ps_ret pe_int))), ?_⟩)
  · obtain ⟨n, lo, hi, rfl, _⟩ := h
    rfl
  · obtain ⟨n, lo, hi, rfl, n4, k⟩ := h
    unfold boxNo at k
    refine ⟨_, rfl, _, rfl, _, _, rfl, rfl, _, rfl, ?_⟩
    by_cases c1 : lo < -1000000
    · rw [if_pos (.inl c1)] at k
      exact tru (decide_eq_true c1) (tru rfl ⟨_, rfl, k⟩)
    · refine fls (decide_eq_false c1) ⟨_, rfl, _, _, rfl, rfl, _, rfl, ?_⟩
      by_cases c2 : 1000000 < hi
      · rw [if_pos (.inr (.inl c2))] at k
        exact tru (decide_eq_true c2) (tru rfl ⟨_, rfl, k⟩)
      · refine fls (decide_eq_false c2) ⟨_, rfl, _, rfl, _, _, rfl, rfl, _, rfl, ?_⟩
        by_cases c3 : hi < lo
        · rw [if_pos (.inr (.inr c3))] at k
          exact tru (decide_eq_true c3) ⟨_, rfl, k⟩
        · rw [if_neg (fun h => h.elim c1 fun h => h.elim c2 c3)] at k
          refine fls (decide_eq_false c3) ?_
          refine ⟨_, rfl, _, rfl, _, rfl, n, lo, hi, rfl, n4, by omega, by omega, by omega, ?_⟩
          refine ⟨_, _, rfl, rfl, _, rfl, ?_⟩
          by_cases c4 : 16 < (hi - lo + 1).toNat ^ n
          · rw [if_pos c4] at k
            exact tru (decide_eq_true (show (((hi - lo + 1).toNat ^ n : Nat) : Int) > 16 by omega)) ⟨_, rfl, k⟩
          · rw [if_neg c4] at k
            exact fls (decide_eq_false (show ¬ (((hi - lo + 1).toNat ^ n : Nat) : Int) > 16 by omega)) k
/-! ## told, leaps_told -/
abbrev sTold : Stmt := top 74
theorem scTold : FnScope ["run", "kind", "rounds", "leaps", "after"] ["run"] (defScope sTold) := ⟨rfl, rfl, rfl, by decide +kernel, rfl, by decide +kernel, by decide +kernel⟩
def spTold : Sp := fun vs H Q _ => ∃ (t r q : Addr) (kd rd : Int) (us : List V) (v : Values), vs = [.ref t] ∧ H t = some (.tup [.int kd, .int rd, .ref r, .ref q]) ∧ H r = some (.lst us) ∧ IsI H q v ∧ v.length ≤ 4 ∧
  ∀ (H' : Hp) (p : Addr), Same H H' → H p = none → IsI H' p (kd :: rd :: ((us.length : Nat) : Int) :: v) → Q (.ref p) H'
theorem ok_told (G : NamesOf mg) {f : Addr} {fd : FuncData} (F : Fun K "told" "told" sTold f fd) : FnOk P w K mg base CX0 1 f fd ["run"] spTold := by
  refine F.ok scTold (fun vs H Q E h => ?_) (fun cdv A outer s H vs Q E hr h => ⟨_, pss_cons (ps_asg (pv 0) (pg_tup rfl (pgs_cons (pg_name (i := 1) scTold.nd rfl (.inl rfl)) (pgs_cons (pg_name (i := 2) scTold.nd rfl (.inl rfl)) (pgs_cons (pg_name (i := 3) scTold.nd rfl (.inl rfl)) (pgs_cons (pg_name (i := 4) scTold.nd rfl (.inl rfl)) pgs_nil)))))) (pss_one (ps_ret (pe_op op_cat (pe_lst (pa_cons (pv 1) (pa_cons (pv 2) (pa_cons (pe_callB call_len_seq (by rfl) G.len PySem.boot_len (pa_cons (pv 3) pa_nil)) pa_nil)))) (pv 4)))), ?_⟩)
  · obtain ⟨t, r, q, kd, rd, us, v, rfl, _⟩ := h
    rfl
  · obtain ⟨t, r, q, kd, rd, us, v, rfl, ht, hr1, hq, h4, k⟩ := h
    refine ⟨_, rfl, t, _, rfl, SqT.of ht, rfl, _, _, rfl, _, _, rfl, _, _, rfl, _, _, rfl, rfl, ?_⟩
    refine ⟨_, rfl, _, rfl, _, rfl, r, _, rfl, .inl (SqL.of hr1), by show 3 ≤ sizeLine; decide, fun p1 hp1 => ?_⟩
    have e1 : Same H (upd H p1 (.lst [.int kd, .int rd, .int ((us.length : Nat) : Int)])) := (Same.refl H).new hp1
    refine ⟨_, rfl, p1, q, _, _, rfl, rfl, upd_same, e1 _ _ hq, by rw [List.length_map]; exact sizeOk' (by show 3 + v.length ≤ 100000; omega), fun p hp => ?_⟩
    refine k _ p (e1.new hp) (e1.free hp) ?_
    unfold IsI
    rw [upd_same]
    rfl
abbrev sLeapsTold : Stmt := top 75
theorem scLeapsTold : FnScope ["leaps", "answer", "at", "pattern", "times"] ["leaps"] (defScope sLeapsTold) := ⟨rfl, rfl, rfl, by decide +kernel, rfl, by decide +kernel, by decide +kernel⟩
def spLeapsTold : Sp := fun vs H Q _ => ∃ (r : Addr) (L : List Leap), vs = [.ref r] ∧ LeapsAt H r L ∧ L.length ≤ 60 ∧ ∀ (H' : Hp) (p : Addr), Same H H' → H p = none → IsI H' p (((L.length : Nat) : Int) :: L.flatMap leapTold) → Q (.ref p) H'
theorem leapTold_eq (x : Leap) : leapTold x = ((x.piece : Nat) : Int) :: ((x.pattern.length : Nat) : Int) :: (nats x.pattern ++ [VaaclBase.orNone x.times]) := rfl
theorem ok_leaps_told (G : NamesOf mg) {f : Addr} {fd : FuncData} (F : Fun K "leaps_told" "leaps_told" sLeapsTold f fd) : FnOk P w K mg base CX0 1 f fd ["leaps"] spLeapsTold := by
  refine F.ok scLeapsTold (fun vs H Q E h => ?_) (fun cdv A outer s H vs Q E hr h => ⟨_, pss_cons (ps_set (i := 1) scLeapsTold.nd rfl (.inl rfl) (pe_lst (pa_cons (pe_callB call_len_seq (by rfl) G.len PySem.boot_len (pa_cons (pv 0) pa_nil)) pa_nil))) (pss_cons (ps_for PassesOwn.never rfl (pi_list (pv 0)) (pg_tup rfl (pgs_cons (pg_name (i := 2) scLeapsTold.nd rfl (.inl rfl)) (pgs_cons (pg_name (i := 3) scLeapsTold.nd rfl (.inl rfl)) (pgs_cons (pg_name (i := 4) scLeapsTold.nd rfl (.inl rfl)) pgs_nil)))) (pss_cons (ps_expr (pe_bm PySem.F.plainAttrs_list PySem.F.slot_list_append PySem.F.type_list_append mt_append (pv 1) (pa_cons (pv 2) pa_nil))) (pss_cons (ps_expr (pe_bm PySem.F.plainAttrs_list PySem.F.slot_list_append PySem.F.type_list_append mt_append (pv 1) (pa_cons (pe_callB call_len_seq (by rfl) G.len PySem.boot_len (pa_cons (pv 3) pa_nil)) pa_nil))) (pss_cons (ps_expr (pe_bm PySem.F.plainAttrs_list PySem.F.slot_list_extend PySem.F.type_list_extend mt_extend (pv 1) (pa_cons (pv 3) pa_nil))) (pss_one (ps_expr (pe_bm PySem.F.plainAttrs_list PySem.F.slot_list_append PySem.F.type_list_append mt_append (pv 1) (pa_cons (pv 4) pa_nil)))))))) (pss_one (ps_ret (pv 1)))), ?_⟩)
  · obtain ⟨r, L, rfl, _⟩ := h
    rfl
  · obtain ⟨r, L, rfl, ⟨ts, hr1, et⟩, l60, k⟩ := h
    have hl : (ts.map V.ref).length = L.length := by rw [List.length_map, et.length]
    refine ⟨_, rfl, r, _, rfl, .inl (SqL.of hr1), by show 1 ≤ sizeLine; decide, fun p hp => ?_⟩
    rw [hl]
    have e0 : Same H (upd H p (.lst [.int ((L.length : Nat) : Int)])) := (Same.refl H).new hp
    refine ⟨_, rfl, r, rfl, ⟨_, SqL.of (e0 _ _ hr1)⟩, for_list (K := K) (a := r) (xs := ts.map V.ref) (fun i σ H' => (∃ v1 v2 v3 : Option V, σ = [some (.ref r), some (.ref p), v1, v2, v3]) ∧ Same H H' ∧ IsI H' p (((L.length : Nat) : Int) :: (L.take i).flatMap leapTold) ∧ ((L.take i).flatMap leapTold).length ≤ 6 * i)
      ⟨⟨none, none, none, rfl⟩, e0, upd_same, by simp⟩ (fun i σ H' _ ⟨_, e, _⟩ => SqL.of (e _ _ hr1)) ?_ ?_⟩
    · rintro i y σ H' hi ⟨⟨v1, v2, v3, rfl⟩, e, hL, hlen⟩
      obtain ⟨t, ht, rfl⟩ := map_get hi
      obtain ⟨x, hx, pa, hT, hpa, plen⟩ := et.get ht
      have hi60 : i < 60 := by
        have := (List.getElem?_eq_some_iff.mp hx).1
        omega
      have hne : ∀ b o, H b = some o → b ≠ p := fun b o hb => ne_of_none hb hp
      refine ⟨t, _, rfl, SqT.of (e _ _ hT), rfl, _, _, rfl, _, _, rfl, _, _, rfl, rfl, ?_⟩
      generalize hX : (((L.length : Nat) : Int) :: (L.take i).flatMap leapTold) = X at hL
      have xl : X.length ≤ 6 * i + 1 := by
        rw [← hX, List.length_cons]
        omega
      refine ⟨_, rfl, .inl ⟨rfl, _, SqL.of hL⟩, _, rfl, p, _, _, rfl, rfl, hL, by rw [List.length_map]; exact sizeOk (by omega), ?_⟩
      have ea : Same H (upd H' p (.lst (X.map V.int ++ [.int ((x.piece : Nat) : Int)]))) := e.put hp
      refine ⟨_, rfl, .inl ⟨rfl, _, SqL.of upd_same⟩, _, rfl, pa, _, rfl, .inl (SqL.of (ea _ _ hpa)), p, _, _, rfl, rfl, upd_same, by rw [List.length_append, List.length_map]; exact sizeOk (by show X.length + 1 ≤ 100000; omega), ?_⟩
      rw [List.length_map, nats_length]
      have eb := ea.put (o := .lst (X.map V.int ++ [.int ((x.piece : Nat) : Int)] ++ [.int ((x.pattern.length : Nat) : Int)])) hp
      refine ⟨_, rfl, .inl ⟨rfl, _, SqL.of upd_same⟩, _, rfl, p, pa, _, _, rfl, rfl, upd_same, eb _ _ hpa, by rw [List.length_append, List.length_append, List.length_map, List.length_map, nats_length]; exact sizeOk' (by show X.length + 1 + 1 + x.pattern.length ≤ 100000; omega), ?_⟩
      have ec := eb.put (o := .lst (X.map V.int ++ [.int ((x.piece : Nat) : Int)] ++ [.int ((x.pattern.length : Nat) : Int)] ++ (nats x.pattern).map V.int)) hp
      refine ⟨_, rfl, .inl ⟨rfl, _, SqL.of upd_same⟩, _, rfl, p, _, _, rfl, rfl, upd_same, by rw [List.length_append, List.length_append, List.length_append, List.length_map, List.length_map, nats_length]; exact sizeOk (by show X.length + 1 + 1 + x.pattern.length ≤ 100000; omega), ⟨_, _, _, rfl⟩, ec.put hp, ?_, ?_⟩
      · unfold IsI
        rw [upd_same, take_more hx, List.flatMap_append, List.flatMap_singleton, ← List.cons_append, hX, leapTold_eq]
        simp only [List.map_append, List.map_cons, List.append_assoc, List.cons_append, List.nil_append, List.map_nil]
      · rw [take_more hx, List.flatMap_append, List.flatMap_singleton, List.length_append, leapTold_eq]
        show _ + ((nats x.pattern ++ [_]).length + 1 + 1) ≤ _
        rw [List.length_append, nats_length]
        show _ + (x.pattern.length + 1 + 1 + 1) ≤ 6 * (i + 1)
        omega
    · rintro σ H' ⟨⟨v1, v2, v3, rfl⟩, e, hL, _⟩
      rw [hl, List.take_length] at hL
      exact ⟨_, rfl, k H' p e hp hL⟩
end
end Lp
namespace Lp
open PySem PySem.Spec PyProof.Rows L2
open VaaclBase (Values readBegin readInt readTimes whole flatOut)
open Vaacle (Leap Leapt howTold boxOf leapTold leapPiece sameEnd foundTold onBegin onBox)
/-! ## What is answered, as the words have it -/
def firstOk (n : Nat) (l : List Int) : Prop := n ≤ l.length ∧ (l.take n).all inRange = true
theorem begin_times : ∀ (n : Nat) (l : List Int), (firstOk n l ∧ readTimes (readInt (-VaaclBase.BEGIN) VaaclBase.BEGIN) n l = some (l.take n, l.drop n)) ∨ (¬ firstOk n l ∧ readTimes (readInt (-VaaclBase.BEGIN) VaaclBase.BEGIN) n l = none)
  | 0, l => .inl ⟨⟨Nat.zero_le _, rfl⟩, rfl⟩
  | n + 1, [] => .inr ⟨fun h => absurd h.1 (by show ¬ n + 1 ≤ 0; omega), rfl⟩
  | n + 1, z :: r => by
    have hin : inRange z = true ↔ -1000000 ≤ z ∧ z ≤ 1000000 := by
      unfold inRange
      rw [Bool.and_eq_true, decide_eq_true_eq, decide_eq_true_eq]
    have hs : firstOk (n + 1) (z :: r) ↔ (inRange z = true ∧ firstOk n r) := by
      unfold firstOk
      rw [List.take_succ_cons, List.all_cons, Bool.and_eq_true]
      show n + 1 ≤ r.length + 1 ∧ _ ↔ _
      constructor
      · rintro ⟨a, b, c⟩
        exact ⟨b, by omega, c⟩
      · rintro ⟨b, a, c⟩
        exact ⟨by omega, b, c⟩
    rw [readTimes_succ]
    by_cases c : -VaaclBase.BEGIN ≤ z ∧ z ≤ VaaclBase.BEGIN
    · rw [readInt_cons c, Option.bind_some]
      rcases begin_times n r with ⟨ok, e⟩ | ⟨no, e⟩
      · exact .inl ⟨hs.mpr ⟨hin.mpr c, ok⟩, by rw [e]; rfl⟩
      · exact .inr ⟨fun h => no (hs.mp h).2, by rw [e]; rfl⟩
    · rw [readInt_none c]
      exact .inr ⟨fun h => c (hin.mp (hs.mp h).1), rfl⟩
theorem values_cases (n : Nat) (l : List Int) : (valuesNo n l = 0 ∧ whole (readBegin n) l = some l ∧ l.length = n) ∨ (valuesNo n l = -5 ∧ whole (readBegin n) l = none) := by
  unfold valuesNo manyNo
  have he : readBegin n = readTimes (readInt (-VaaclBase.BEGIN) VaaclBase.BEGIN) n := rfl
  rcases begin_times n l with ⟨⟨o1, o2⟩, e⟩ | ⟨no, e⟩
  · by_cases hl : l.length = n
    · have ht : l.take n = l := by rw [← hl]; exact List.take_length
      have hd : l.drop n = [] := by rw [← hl]; exact List.drop_length
      rw [ht] at o2 e
      rw [hd] at e
      exact .inl ⟨by rw [if_pos o2, if_neg (fun h => h hl)], whole_some (by rw [he]; exact e), hl⟩
    · refine .inr ⟨?_, whole_rest (by rw [he]; exact e) (fun h => ?_)⟩
      · rw [if_pos hl]
        exact ite_self _
      · have := congrArg List.length h
        rw [List.length_drop] at this
        exact hl (by have : l.length - n = 0 := this; omega)
  · refine .inr ⟨?_, whole_none (by rw [he]; exact e)⟩
    by_cases ha : l.all inRange = true
    · rw [if_pos ha, if_pos (fun hl => no ⟨by omega, by rw [← hl, List.take_length]; exact ha⟩)]
    · rw [if_neg ha]
theorem fold_pow (w : Nat) : ∀ n : Nat, (List.range n).foldl (fun k _ => k * w) 1 = w ^ n
  | 0 => rfl
  | n + 1 => by
    rw [List.range_succ, List.foldl_append, fold_pow w n]
    rfl
theorem box_cases {n : Nat} (n1 : 1 ≤ n) (lo hi : Int) : (boxNo n lo hi = 0 ∧ GoodBox n lo hi ∧ ∀ f, onBox n lo hi f = f (boxOf lo hi n)) ∨ (boxNo n lo hi < 0 ∧ ∀ f, onBox n lo hi f = [boxNo n lo hi]) := by
  unfold boxNo
  by_cases c : lo < -1000000 ∨ 1000000 < hi ∨ hi < lo
  · refine .inr ⟨by rw [if_pos c]; decide, fun f => ?_⟩
    rw [if_pos c]
    unfold onBox
    exact if_pos c
  · rw [if_neg c]
    have on : ∀ f, onBox n lo hi f = if VaaclBase.int Vaacle.BOX ≤ hi - lo then [-7] else if Vaacle.BOX < (List.range n).foldl (fun k _ => k * (hi - lo + 1).toNat) 1 then [-7] else f (boxOf lo hi n) := fun f => if_neg c
    have hB : VaaclBase.int Vaacle.BOX = 16 := rfl
    have hB' : Vaacle.BOX = 16 := rfl
    rw [hB, hB', fold_pow] at on
    by_cases c2 : 16 ≤ hi - lo
    · have big : 16 < (hi - lo + 1).toNat ^ n := by
        have h1 : 17 ≤ (hi - lo + 1).toNat := by omega
        have h2 : (hi - lo + 1).toNat ^ 1 ≤ (hi - lo + 1).toNat ^ n := Nat.pow_le_pow_right (by omega) n1
        rw [Nat.pow_one] at h2
        omega
      rw [if_pos big]
      exact .inr ⟨by decide, fun f => by rw [on, if_pos c2]⟩
    · by_cases c3 : 16 < (hi - lo + 1).toNat ^ n
      · rw [if_pos c3]
        exact .inr ⟨by decide, fun f => by rw [on, if_neg c2, if_pos c3]⟩
      · rw [if_neg c3]
        exact .inl ⟨rfl, ⟨by omega, by omega, by omega, by omega⟩, fun f => by rw [on, if_neg c2, if_neg c3]⟩
/-- what leap answers -/
def leapM (p : ProgT) (v : Values) : List Int := howTold (Vaacle.leapt p v).how :: VaaclBase.int (Vaacle.leapt p v).rounds :: VaaclBase.int (Vaacle.leapt p v).leaps.length :: (Vaacle.leapt p v).values
def leapsM (p : ProgT) (v : Values) : List Int := VaaclBase.int (Vaacle.leapt p v).leaps.length :: (Vaacle.leapt p v).leaps.flatMap leapTold
def runM (pc : Int) (p : ProgT) (l : List Int) : List Int := onBegin p l fun v => if pc = 2 then flatOut (VaaclBase.run p v) else if pc = 1 then leapM p v else leapsM p v
def pieceM (k : Int) (p : ProgT) (l : List Int) : List Int := match (if k < 0 then none else p.pieces[k.toNat]?) with
  | none => [-4]
  | some y => onBegin p l fun v => let x := leapPiece k.toNat ⟨.over, 0, v, []⟩ y
    howTold x.how :: VaaclBase.int x.rounds :: VaaclBase.int x.leaps.length :: x.values
def sameM (p q : ProgT) (l : List Int) : List Int := if p.counters ≠ q.counters then [-6] else onBegin p l fun v => match sameEnd (Vaacle.leapt p v) (Vaacle.leapt q v) with
  | none => [2]
  | some b => [if b then 1 else 0]
def apartS (p q : ProgT) (lo hi : Int) : List Int := if p.counters ≠ q.counters then [-6] else onBox p.counters lo hi fun l =>
  let r := l.map fun v => (v, sameEnd (Vaacle.leapt p v) (Vaacle.leapt q v))
  VaaclBase.int (r.countP fun x => x.2 == none) :: (match r.find? fun x => x.2 == some false with
    | none => [0]
    | some x => 1 :: x.1)
def endsS (p : ProgT) (lo hi : Int) (t : List Int) : List Int := onBox p.counters lo hi fun l => if t.length ≠ p.counters then [-5] else
  let r := l.filter fun v => let x := Vaacle.leapt p v
    x.how == .over && x.values == t
  VaaclBase.int r.length :: foundTold r.head?
def longestS (p : ProgT) (lo hi : Int) : List Int := onBox p.counters lo hi fun l =>
  let r := (l.map fun v => (v, Vaacle.leapt p v)).filter fun x => x.2.how == .over
  match r with
    | [] => [0]
    | x :: y => let b := y.foldl (fun (a : Values × Leapt) z => if a.2.rounds < z.2.rounds then z else a) x
      [1, VaaclBase.int b.2.rounds] ++ b.1
def neverS (p : ProgT) (lo hi : Int) : List Int := onBox p.counters lo hi fun l => foundTold (l.find? fun v => (Vaacle.leapt p v).how == .never)
def countsS (p : ProgT) (lo hi : Int) : List Int := onBox p.counters lo hi fun l =>
  let r := l.map fun v => (Vaacle.leapt p v).how
  [Vaacle.How.over, .beyond, .never, .many].map fun h => VaaclBase.int (r.countP fun x => x == h)
theorem apart_eq (se : Values → Option Bool) (l : List Values) : (let r := l.map fun v => (v, se v)
    VaaclBase.int (r.countP fun x => x.2 == none) :: (match r.find? fun x => x.2 == some false with
      | none => [0]
      | some x => 1 :: x.1)) = apartM se l := by
  show VaaclBase.int ((l.map fun v => (v, se v)).countP fun x => x.2 == none) :: (match (l.map fun v => (v, se v)).find? fun x => x.2 == some false with
      | none => [0]
      | some x => 1 :: x.1) = _
  unfold apartM
  rw [List.countP_map, List.find?_map, List.head?_filter]
  have e1 : ((fun x : Values × Option Bool => x.2 == none) ∘ fun v => (v, se v)) = fun v => se v == none := rfl
  have e2 : ((fun x : Values × Option Bool => x.2 == some false) ∘ fun v => (v, se v)) = fun v => se v == some false := rfl
  rw [e1, e2]
  cases l.find? fun v => se v == some false <;> rfl
theorem longest_fold (f : Values → Leapt) : ∀ (l : List Values) (v : Values), l.foldl (longTurn f) (some ((f v).rounds, v)) =
    (let b := ((l.map fun v => (v, f v)).filter fun x => x.2.how == .over).foldl (fun (a : Values × Leapt) z => if a.2.rounds < z.2.rounds then z else a) (v, f v)
     some (b.2.rounds, b.1)) ∧ (let b := ((l.map fun v => (v, f v)).filter fun x => x.2.how == .over).foldl (fun (a : Values × Leapt) z => if a.2.rounds < z.2.rounds then z else a) (v, f v)
     b.2 = f b.1)
  | [], v => ⟨rfl, rfl⟩
  | u :: l, v => by
    rw [List.map_cons, List.foldl_cons]
    by_cases c : (f u).how = .over
    · have e : (((u, f u) :: l.map fun v => (v, f v)).filter fun x => x.2.how == .over) = (u, f u) :: ((l.map fun v => (v, f v)).filter fun x => x.2.how == .over) := List.filter_cons_of_pos (by rw [beq_iff_eq]; exact c)
      rw [e, List.foldl_cons]
      by_cases d : (f v).rounds < (f u).rounds
      · have e2 : longTurn f (some ((f v).rounds, v)) u = some ((f u).rounds, u) := if_pos ⟨c, fun b hb => by cases hb; exact d⟩
        rw [e2, if_pos d]
        exact longest_fold f l u
      · have e2 : longTurn f (some ((f v).rounds, v)) u = some ((f v).rounds, v) := if_neg (fun h => d (h.2 _ rfl))
        rw [e2, if_neg d]
        exact longest_fold f l v
    · have e : (((u, f u) :: l.map fun v => (v, f v)).filter fun x => x.2.how == .over) = ((l.map fun v => (v, f v)).filter fun x => x.2.how == .over) := List.filter_cons_of_neg (by rw [beq_iff_eq]; exact c)
      have e2 : longTurn f (some ((f v).rounds, v)) u = some ((f v).rounds, v) := if_neg (fun h => c h.1)
      rw [e, e2]
      exact longest_fold f l v
theorem longest_eq (f : Values → Leapt) : ∀ l : List Values, (let r := (l.map fun v => (v, f v)).filter fun x => x.2.how == .over
    match r with
      | [] => [0]
      | x :: y => let b := y.foldl (fun (a : Values × Leapt) z => if a.2.rounds < z.2.rounds then z else a) x
        [1, VaaclBase.int b.2.rounds] ++ b.1) = longestM f l
  | [] => rfl
  | u :: l => by
    unfold longestM
    rw [List.map_cons, List.foldl_cons]
    by_cases c : (f u).how = .over
    · have e : (((u, f u) :: l.map fun v => (v, f v)).filter fun x => x.2.how == .over) = (u, f u) :: ((l.map fun v => (v, f v)).filter fun x => x.2.how == .over) := List.filter_cons_of_pos (by rw [beq_iff_eq]; exact c)
      have e2 : longTurn f none u = some ((f u).rounds, u) := if_pos ⟨c, fun b hb => by cases hb⟩
      rw [e, e2, (longest_fold f l u).1]
      rfl
    · have e : (((u, f u) :: l.map fun v => (v, f v)).filter fun x => x.2.how == .over) = ((l.map fun v => (v, f v)).filter fun x => x.2.how == .over) := List.filter_cons_of_neg (by rw [beq_iff_eq]; exact c)
      have e2 : longTurn f none u = none := if_neg (fun h => c h.1)
      rw [e, e2]
      exact longest_eq f l
theorem counts_eq (f : Values → Leapt) (l : List Values) : (let r := l.map fun v => (f v).how
    [Vaacle.How.over, .beyond, .never, .many].map fun h => VaaclBase.int (r.countP fun x => x == h)) = countsM f l := by
  show ([Vaacle.How.over, .beyond, .never, .many].map fun h => VaaclBase.int ((l.map fun v => (f v).how).countP fun x => x == h)) = _
  unfold countsM
  simp only [List.map_cons, List.map_nil, List.countP_map]
  rfl
theorem piece_cases (p : ProgT) (k : Int) : (pieceNo p k = 0 ∧ ∃ y, 0 ≤ k ∧ p.pieces[k.toNat]? = some y ∧ (if k < 0 then none else p.pieces[k.toNat]?) = some y) ∨ (pieceNo p k = -4 ∧ (if k < 0 then none else p.pieces[k.toNat]?) = none) := by
  unfold pieceNo
  by_cases c : k < 0
  · exact .inr ⟨if_pos (.inl c), if_pos c⟩
  · by_cases d : ((p.pieces.length : Nat) : Int) ≤ k
    · exact .inr ⟨if_pos (.inr d), by rw [if_neg c]; exact List.getElem?_eq_none (by omega)⟩
    · have hk : k.toNat < p.pieces.length := by omega
      exact .inl ⟨if_neg (fun h => h.elim c d), p.pieces[k.toNat], by omega, List.getElem?_eq_getElem hk, by rw [if_neg c]; exact List.getElem?_eq_getElem hk⟩
theorem onBegin_some {p : ProgT} {l : List Int} (h : whole (readBegin p.counters) l = some l) (f : Values → List Int) : onBegin p l f = f l := by
  unfold onBegin
  rw [h]
theorem onBegin_none {p : ProgT} {l : List Int} (h : whole (readBegin p.counters) l = none) (f : Values → List Int) : onBegin p l f = [-5] := by
  unfold onBegin
  rw [h]
section
variable {P : Program} {w : World} {K : PySem.W.Frag} {mg : Str → Option Value} {base : Heap} {f1 f2 f3 f4 f5 f6 : Addr} {d1 d2 d3 d4 d5 d6 : FuncData}
/-! ## run_answer -/
abbrev sRunAnswer : Stmt := top 76
theorem scRunAnswer : FnScope ["place", "program", "values", "refused", "kind", "rounds", "after", "run"] ["place", "program", "values"] (defScope sRunAnswer) := ⟨rfl, rfl, rfl, by decide +kernel, rfl, by decide +kernel, by decide +kernel⟩
def spRunAnswer : Sp := fun vs H Q _ => ∃ (pc : Int) (a b : Addr) (p : ProgT) (l : List Int), vs = [.int pc, .ref a, .ref b] ∧ (pc = 1 ∨ pc = 2 ∨ pc = 3) ∧ ProgAt H a p ∧ IsI H b l ∧ GoodProg p ∧
  ∀ (H' : Hp) (r : Addr), Same H H' → H r = none → IsI H' r (runM pc p l) → Q (.ref r) H'
theorem ok_run_answer (DValuesRefused : Def P w K mg base CX0 2 "values_refused" ["counters", "values"] spValuesRefused f1 d1) (DRunProgram : Def P w K mg base CX0 6 "run_program" ["program", "values"] spRunProgram f2 d2)
    (DLeapProgram : Def P w K mg base CX0 11 "leap_program" ["program", "values"] spLeapProgram f3 d3) (DTold : Def P w K mg base CX0 1 "told" ["run"] spTold f4 d4) (DLeapsTold : Def P w K mg base CX0 1 "leaps_told" ["leaps"] spLeapsTold f5 d5)
    {f : Addr} {fd : FuncData} (F : Fun K "run_answer" "run_answer" sRunAnswer f fd) : FnOk P w K mg base CX0 12 f fd ["place", "program", "values"] spRunAnswer := by
  refine F.ok scRunAnswer (fun vs H Q E h => ?_) (fun cdv A outer s H vs Q E hr h => ⟨_, pss_cons (ps_set (i := 3) scRunAnswer.nd rfl (.inl rfl) (pe_call DValuesRefused.ok (hr.mono (by decide)) rfl DValuesRefused.m DValuesRefused.kp DValuesRefused.b .nil pass0 (pa_cons (pe_ix ix_tup (pv 1) pe_int (fun _ _ => rfl)) (pa_cons (pv 2) pa_nil)))) (pss_cons (ps_if (pt_cmp (pc_lt (pv 3) pe_int)) (pss_one (ps_ret (pe_lst (pa_cons (pv 3) pa_nil)))) pss_nil) (pss_cons (ps_if (pt_cmp (pc_eqI (pv 0) pe_int)) (pss_cons (ps_asg (pe_call DRunProgram.ok (hr.mono (by decide)) rfl DRunProgram.m DRunProgram.kp DRunProgram.b .nil pass0 (pa_cons (pv 1) (pa_cons (pv 2) pa_nil))) (pg_tup rfl (pgs_cons (pg_name (i := 4) scRunAnswer.nd rfl (.inl rfl)) (pgs_cons (pg_name (i := 5) scRunAnswer.nd rfl (.inl rfl)) (pgs_cons (pg_name (i := 6) scRunAnswer.nd rfl (.inl rfl)) pgs_nil))))) (pss_one (ps_ret (pe_op op_cat (pe_lst (pa_cons (pv 4) (pa_cons (pv 5) pa_nil))) (pv 6))))) pss_nil) (pss_cons (ps_set (i := 7) scRunAnswer.nd rfl (.inl rfl) (pe_call DLeapProgram.ok (hr.mono (by decide)) rfl DLeapProgram.m DLeapProgram.kp DLeapProgram.b .nil pass0 (pa_cons (pv 1) (pa_cons (pv 2) pa_nil)))) (pss_cons (ps_if (pt_cmp (pc_eqI (pv 0) pe_int)) (pss_one (ps_ret (pe_call DTold.ok (hr.mono (by decide)) rfl DTold.m DTold.kp DTold.b .nil pass0 (pa_cons (pv 7) pa_nil)))) pss_nil) (pss_one (ps_ret (pe_call DLeapsTold.ok (hr.mono (by decide)) rfl DLeapsTold.m DLeapsTold.kp DLeapsTold.b .nil pass0 (pa_cons (pe_ix ix_tup (pv 7) pe_int (fun _ _ => rfl)) pa_nil)))))))), ?_⟩)
  · obtain ⟨pc, a, b, p, l, rfl, _⟩ := h
    rfl
  · obtain ⟨pc, a, b, p, l, rfl, hpc, ha, hb, ok, k⟩ := h
    obtain ⟨pl, hX, _⟩ := id ha
    refine ⟨_, rfl, a, _, _, _, rfl, rfl, SqT.of hX, atI_nat (j := 0) rfl, _, rfl, b, p.counters, l, rfl, hb, fun H1 e1 => ?_⟩
    unfold runM at k
    refine ⟨_, rfl, _, _, rfl, rfl, _, rfl, ?_⟩
    rcases values_cases p.counters l with ⟨hv, hw, hl⟩ | ⟨hv, hw⟩
    · rw [hv]
      rw [onBegin_some hw] at k
      refine fls rfl ⟨_, rfl, _, _, rfl, rfl, _, rfl, ?_⟩
      have n4 := ok.n4
      by_cases c2 : pc = 2
      · rw [if_pos c2] at k
        refine tru (decide_eq_true c2) ?_
        refine ⟨_, rfl, _, rfl, a, b, p, l, rfl, ha.same e1, hb.same e1, ok, hl, fun H2 t e2 ⟨q, ht, hq⟩ yl => ?_⟩
        refine ⟨t, _, rfl, SqT.of ht, rfl, _, _, rfl, _, _, rfl, _, _, rfl, rfl, ?_⟩
        refine ⟨_, rfl, _, rfl, by show 2 ≤ sizeLine; decide, fun u hu => ?_⟩
        have e3 := (Same.refl H2).new (o := .lst [.int (VaaclBase.howNumber (VaaclBase.run p l).how), .int ((VaaclBase.run p l).rounds : Nat)]) hu
        refine ⟨_, rfl, u, q, _, _, rfl, rfl, upd_same, e3 _ _ hq, by rw [List.length_map]; exact sizeOk' (by show 2 + _ ≤ 100000; omega), fun r hr => ?_⟩
        refine k _ r (((e1.trans e2).trans e3).new hr) (((e1.trans e2).trans e3).free hr) ?_
        unfold IsI
        rw [upd_same]
        rfl
      · rw [if_neg c2] at k
        refine fls (decide_eq_false c2) ?_
        refine ⟨_, rfl, _, rfl, a, b, p, l, rfl, ha.same e1, hb.same e1, ok, hl, fun H2 t r q y hy e2 nt ht hL hq yl yL => ?_⟩
        refine ⟨_, rfl, _, _, rfl, rfl, _, rfl, ?_⟩
        by_cases c1 : pc = 1
        · rw [if_pos c1] at k
          refine tru (decide_eq_true c1) ?_
          obtain ⟨ts, hr1, et⟩ := id hL
          refine ⟨_, rfl, t, r, q, _, _, _, y.values, rfl, ht, hr1, hq, by omega, fun H3 u e3 nu hu => ?_⟩
          refine k H3 u ((e1.trans e2).trans e3) ((e1.trans e2).free nu) ?_
          unfold leapM
          rw [← hy]
          rw [List.length_map, et.length] at hu
          exact hu
        · rw [if_neg c1] at k
          refine fls (decide_eq_false c1) ?_
          refine ⟨_, rfl, t, _, _, _, rfl, rfl, SqT.of ht, atI_nat (j := 2) rfl, r, y.leaps, rfl, hL, yL, fun H3 u e3 nu hu => ?_⟩
          refine k H3 u ((e1.trans e2).trans e3) ((e1.trans e2).free nu) ?_
          unfold leapsM
          rw [← hy]
          exact hu
    · rw [hv]
      rw [onBegin_none hw] at k
      refine tru rfl ⟨_, rfl, by show 1 ≤ sizeLine; decide, fun r hr => ?_⟩
      exact k _ r (e1.new hr) (e1.free hr) upd_same
abbrev sPieceAnswer : Stmt := top 77
theorem scPieceAnswer : FnScope ["program", "at", "values", "refused"] ["program", "at", "values"] (defScope sPieceAnswer) := ⟨rfl, rfl, rfl, by decide +kernel, rfl, by decide +kernel, by decide +kernel⟩
def spPieceAnswer : Sp := fun vs H Q _ => ∃ (a b : Addr) (k : Int) (p : ProgT) (l : List Int), vs = [.ref a, .int k, .ref b] ∧ ProgAt H a p ∧ IsI H b l ∧ GoodProg p ∧
  ∀ (H' : Hp) (r : Addr), Same H H' → H r = none → IsI H' r (pieceM k p l) → Q (.ref r) H'
theorem ok_piece_answer (DPieceRefused : Def P w K mg base CX0 1 "piece_refused" ["program", "at"] spPieceRefused f1 d1) (DValuesRefused : Def P w K mg base CX0 2 "values_refused" ["counters", "values"] spValuesRefused f2 d2)
    (DLeapPiece : Def P w K mg base CX0 10 "leap_piece" ["piece", "values"] spLeapPiece f3 d3) (DTold : Def P w K mg base CX0 1 "told" ["run"] spTold f4 d4)
    {f : Addr} {fd : FuncData} (F : Fun K "piece_answer" "piece_answer" sPieceAnswer f fd) : FnOk P w K mg base CX0 11 f fd ["program", "at", "values"] spPieceAnswer := by
  refine F.ok scPieceAnswer (fun vs H Q E h => ?_) (fun cdv A outer s H vs Q E hr h => ⟨_, pss_cons (ps_set (i := 3) scPieceAnswer.nd rfl (.inl rfl) (pe_call DPieceRefused.ok (hr.mono (by decide)) rfl DPieceRefused.m DPieceRefused.kp DPieceRefused.b .nil pass0 (pa_cons (pv 0) (pa_cons (pv 1) pa_nil)))) (pss_cons (ps_if (pt_cmp (pc_lt (pv 3) pe_int)) (pss_one (ps_ret (pe_lst (pa_cons (pv 3) pa_nil)))) pss_nil) (pss_cons (ps_set (i := 3) scPieceAnswer.nd rfl (.inl rfl) (pe_call DValuesRefused.ok (hr.mono (by decide)) rfl DValuesRefused.m DValuesRefused.kp DValuesRefused.b .nil pass0 (pa_cons (pe_ix ix_tup (pv 0) pe_int (fun _ _ => rfl)) (pa_cons (pv 2) pa_nil)))) (pss_cons (ps_if (pt_cmp (pc_lt (pv 3) pe_int)) (pss_one (ps_ret (pe_lst (pa_cons (pv 3) pa_nil)))) pss_nil) (pss_one (ps_ret (pe_call DTold.ok (hr.mono (by decide)) rfl DTold.m DTold.kp DTold.b .nil pass0 (pa_cons (pe_call DLeapPiece.ok (hr.mono (by decide)) rfl DLeapPiece.m DLeapPiece.kp DLeapPiece.b .nil pass0 (pa_cons (pe_ix ix_list (pe_ix ix_tup (pv 0) pe_int (fun _ _ => rfl)) (pv 1) (fun _ _ => rfl)) (pa_cons (pv 2) pa_nil))) pa_nil))))))), ?_⟩)
  · obtain ⟨a, b, z, p, l, rfl, _⟩ := h
    rfl
  · obtain ⟨a, b, z, p, l, rfl, ha, hb, ok, k⟩ := h
    refine ⟨_, rfl, _, rfl, a, p, z, rfl, ha, ?_⟩
    refine ⟨_, rfl, _, _, rfl, rfl, _, rfl, ?_⟩
    unfold pieceM at k
    rcases piece_cases p z with ⟨hz, y, z0, hy, e⟩ | ⟨hz, e⟩
    · rw [hz]
      rw [e] at k
      obtain ⟨pl, hX, ps, hpl, ep⟩ := id ha
      refine fls rfl ⟨_, rfl, a, _, _, _, rfl, rfl, SqT.of hX, atI_nat (j := 0) rfl, _, rfl, b, p.counters, l, rfl, hb, fun H1 e1 => ?_⟩
      refine ⟨_, rfl, _, _, rfl, rfl, _, rfl, ?_⟩
      rcases values_cases p.counters l with ⟨hv, hw, hl⟩ | ⟨hv, hw⟩
      · rw [hv]
        dsimp only at k
        rw [onBegin_some hw] at k
        obtain ⟨t, ht, hP⟩ := ep.back hy
        have okp : GoodP p.counters y := ok.each y (List.mem_of_getElem? hy)
        have n4 := ok.n4
        have hz' : z = ((z.toNat : Nat) : Int) := by omega
        refine fls rfl ⟨_, rfl, a, _, _, _, rfl, rfl, SqT.of (e1 _ _ hX), atI_nat (j := 1) rfl, _, rfl, pl, _, _, _, rfl, rfl, SqL.of (e1 _ _ hpl), ?_, _, rfl, t, b, y, l, rfl, PieceAt.same hP e1, hb.same e1, by rw [hl]; exact okp, by omega, fun H2 u r q x hx e2 nu nr _ hu hL hq xl xL => ?_⟩
        · rw [hz']
          exact atI_nat (by rw [List.getElem?_map, ht]; rfl)
        obtain ⟨ts, hr1, et⟩ := id hL
        refine ⟨u, r, q, _, _, _, x.values, rfl, hu, hr1, hq, by omega, fun H3 g e3 ng hg => ?_⟩
        refine k H3 g ((e1.trans e2).trans e3) ((e1.trans e2).free ng) ?_
        rw [leapPiece_shift, ← hx]
        show IsI H3 g (howTold x.how :: VaaclBase.int (0 + x.rounds) :: VaaclBase.int ([] ++ x.leaps.map _).length :: x.values)
        rw [Nat.zero_add, List.nil_append, List.length_map]
        rw [List.length_map, et.length] at hg
        exact hg
      · rw [hv]
        dsimp only at k
        rw [onBegin_none hw] at k
        refine tru rfl ⟨_, rfl, by show 1 ≤ sizeLine; decide, fun r hr => ?_⟩
        exact k _ r (e1.new hr) (e1.free hr) upd_same
    · rw [hz]
      rw [e] at k
      refine tru rfl ⟨_, rfl, by show 1 ≤ sizeLine; decide, fun r hr => ?_⟩
      exact k _ r ((Same.refl H).new hr) hr upd_same
theorem countersNo_cases (p q : ProgT) : (countersNo p q = 0 ∧ p.counters = q.counters) ∨ (countersNo p q = -6 ∧ p.counters ≠ q.counters) := by
  unfold countersNo
  by_cases c : p.counters = q.counters
  · exact .inl ⟨if_neg (fun h => h c), c⟩
  · exact .inr ⟨if_pos c, c⟩
abbrev sSameAnswer : Stmt := top 78
theorem scSameAnswer : FnScope ["first", "second", "values", "refused"] ["first", "second", "values"] (defScope sSameAnswer) := ⟨rfl, rfl, rfl, by decide +kernel, rfl, by decide +kernel, by decide +kernel⟩
def spSameAnswer : Sp := fun vs H Q _ => ∃ (a b c : Addr) (p q : ProgT) (l : List Int), vs = [.ref a, .ref b, .ref c] ∧ ProgAt H a p ∧ ProgAt H b q ∧ IsI H c l ∧ GoodProg p ∧ GoodProg q ∧
  ∀ (H' : Hp) (r : Addr), Same H H' → H r = none → IsI H' r (sameM p q l) → Q (.ref r) H'
theorem ok_same_answer (DCountersRefused : Def P w K mg base CX0 1 "counters_refused" ["first", "second"] spCountersRefused f1 d1) (DValuesRefused : Def P w K mg base CX0 2 "values_refused" ["counters", "values"] spValuesRefused f2 d2)
    (DSame : Def P w K mg base CX0 12 "same" ["first", "second", "values"] spSame f3 d3)
    {f : Addr} {fd : FuncData} (F : Fun K "same_answer" "same_answer" sSameAnswer f fd) : FnOk P w K mg base CX0 13 f fd ["first", "second", "values"] spSameAnswer := by
  refine F.ok scSameAnswer (fun vs H Q E h => ?_) (fun cdv A outer s H vs Q E hr h => ⟨_, pss_cons (ps_set (i := 3) scSameAnswer.nd rfl (.inl rfl) (pe_call DCountersRefused.ok (hr.mono (by decide)) rfl DCountersRefused.m DCountersRefused.kp DCountersRefused.b .nil pass0 (pa_cons (pv 0) (pa_cons (pv 1) pa_nil)))) (pss_cons (ps_if (pt_cmp (pc_lt (pv 3) pe_int)) (pss_one (ps_ret (pe_lst (pa_cons (pv 3) pa_nil)))) pss_nil) (pss_cons (ps_set (i := 3) scSameAnswer.nd rfl (.inl rfl) (pe_call DValuesRefused.ok (hr.mono (by decide)) rfl DValuesRefused.m DValuesRefused.kp DValuesRefused.b .nil pass0 (pa_cons (pe_ix ix_tup (pv 0) pe_int (fun _ _ => rfl)) (pa_cons (pv 2) pa_nil)))) (pss_cons (ps_if (pt_cmp (pc_lt (pv 3) pe_int)) (pss_one (ps_ret (pe_lst (pa_cons (pv 3) pa_nil)))) pss_nil) (pss_one (ps_ret (pe_lst (pa_cons (pe_call DSame.ok (hr.mono (by decide)) rfl DSame.m DSame.kp DSame.b .nil pass0 (pa_cons (pv 0) (pa_cons (pv 1) (pa_cons (pv 2) pa_nil)))) pa_nil))))))), ?_⟩)
  · obtain ⟨a, b, c, p, q, l, rfl, _⟩ := h
    rfl
  · obtain ⟨a, b, c, p, q, l, rfl, ha, hb, hc, okp, okq, k⟩ := h
    refine ⟨_, rfl, _, rfl, a, b, p, q, rfl, ha, hb, ?_⟩
    refine ⟨_, rfl, _, _, rfl, rfl, _, rfl, ?_⟩
    unfold sameM at k
    rcases countersNo_cases p q with ⟨hz, e⟩ | ⟨hz, e⟩
    · rw [hz]
      rw [if_neg (fun h => h e)] at k
      obtain ⟨pl, hX, _⟩ := id ha
      refine fls rfl ⟨_, rfl, a, _, _, _, rfl, rfl, SqT.of hX, atI_nat (j := 0) rfl, _, rfl, c, p.counters, l, rfl, hc, fun H1 e1 => ?_⟩
      refine ⟨_, rfl, _, _, rfl, rfl, _, rfl, ?_⟩
      rcases values_cases p.counters l with ⟨hv, hw, hl⟩ | ⟨hv, hw⟩
      · rw [hv]
        rw [onBegin_some hw] at k
        refine fls rfl ⟨_, rfl, _, rfl, _, rfl, a, b, c, p, q, l, rfl, ha.same e1, hb.same e1, hc.same e1, okp, okq, hl, e.symm, fun H2 e2 => ⟨by show 1 ≤ sizeLine; decide, fun r hr => ?_⟩⟩
        refine k _ r ((e1.trans e2).new hr) ((e1.trans e2).free hr) ?_
        unfold IsI
        rw [upd_same]
        cases sameEnd (Vaacle.leapt p l) (Vaacle.leapt q l) with
        | none => rfl
        | some o => cases o <;> rfl
      · rw [hv]
        rw [onBegin_none hw] at k
        refine tru rfl ⟨_, rfl, by show 1 ≤ sizeLine; decide, fun r hr => ?_⟩
        exact k _ r (e1.new hr) (e1.free hr) upd_same
    · rw [hz]
      rw [if_pos e] at k
      refine tru rfl ⟨_, rfl, by show 1 ≤ sizeLine; decide, fun r hr => ?_⟩
      exact k _ r ((Same.refl H).new hr) hr upd_same
abbrev sApartAnswer : Stmt := top 79
theorem scApartAnswer : FnScope ["first", "second", "lo", "hi", "refused"] ["first", "second", "lo", "hi"] (defScope sApartAnswer) := ⟨rfl, rfl, rfl, by decide +kernel, rfl, by decide +kernel, by decide +kernel⟩
def spApartAnswer : Sp := fun vs H Q _ => ∃ (a b : Addr) (lo hi : Int) (p q : ProgT), vs = [.ref a, .ref b, .int lo, .int hi] ∧ ProgAt H a p ∧ ProgAt H b q ∧ GoodProg p ∧ GoodProg q ∧
  ∀ (H' : Hp) (r : Addr), Same H H' → H r = none → IsI H' r (apartS p q lo hi) → Q (.ref r) H'
theorem ok_apart_answer (DCountersRefused : Def P w K mg base CX0 1 "counters_refused" ["first", "second"] spCountersRefused f1 d1) (DBoxRefused : Def P w K mg base CX0 2 "box_refused" ["counters", "lo", "hi"] spBoxRefused f2 d2)
    (DApart : Def P w K mg base CX0 13 "apart" ["first", "second", "lo", "hi"] spApart f3 d3)
    {f : Addr} {fd : FuncData} (F : Fun K "apart_answer" "apart_answer" sApartAnswer f fd) : FnOk P w K mg base CX0 14 f fd ["first", "second", "lo", "hi"] spApartAnswer := by
  refine F.ok scApartAnswer (fun vs H Q E h => ?_) (fun cdv A outer s H vs Q E hr h => ⟨_, pss_cons (ps_set (i := 4) scApartAnswer.nd rfl (.inl rfl) (pe_call DCountersRefused.ok (hr.mono (by decide)) rfl DCountersRefused.m DCountersRefused.kp DCountersRefused.b .nil pass0 (pa_cons (pv 0) (pa_cons (pv 1) pa_nil)))) (pss_cons (ps_if (pt_cmp (pc_lt (pv 4) pe_int)) (pss_one (ps_ret (pe_lst (pa_cons (pv 4) pa_nil)))) pss_nil) (pss_cons (ps_set (i := 4) scApartAnswer.nd rfl (.inl rfl) (pe_call DBoxRefused.ok (hr.mono (by decide)) rfl DBoxRefused.m DBoxRefused.kp DBoxRefused.b .nil pass0 (pa_cons (pe_ix ix_tup (pv 0) pe_int (fun _ _ => rfl)) (pa_cons (pv 2) (pa_cons (pv 3) pa_nil))))) (pss_cons (ps_if (pt_cmp (pc_lt (pv 4) pe_int)) (pss_one (ps_ret (pe_lst (pa_cons (pv 4) pa_nil)))) pss_nil) (pss_one (ps_ret (pe_call DApart.ok (hr.mono (by decide)) rfl DApart.m DApart.kp DApart.b .nil pass0 (pa_cons (pv 0) (pa_cons (pv 1) (pa_cons (pv 2) (pa_cons (pv 3) pa_nil)))))))))), ?_⟩)
  · obtain ⟨a, b, lo, hi, p, q, rfl, _⟩ := h
    rfl
  · obtain ⟨a, b, lo, hi, p, q, rfl, ha, hb, okp, okq, k⟩ := h
    refine ⟨_, rfl, _, rfl, a, b, p, q, rfl, ha, hb, ?_⟩
    refine ⟨_, rfl, _, _, rfl, rfl, _, rfl, ?_⟩
    unfold apartS at k
    rcases countersNo_cases p q with ⟨hz, e⟩ | ⟨hz, e⟩
    · rw [hz]
      rw [if_neg (fun h => h e)] at k
      obtain ⟨pl, hX, _⟩ := id ha
      refine fls rfl ⟨_, rfl, a, _, _, _, rfl, rfl, SqT.of hX, atI_nat (j := 0) rfl, _, rfl, _, rfl, p.counters, lo, hi, rfl, okp.n4, ?_⟩
      refine ⟨_, rfl, _, _, rfl, rfl, _, rfl, ?_⟩
      rcases box_cases okp.n1 lo hi with ⟨hv, gb, on⟩ | ⟨hv, on⟩
      · rw [hv]
        rw [on] at k
        refine fls rfl ⟨_, rfl, _, rfl, _, rfl, _, rfl, a, b, lo, hi, p, q, rfl, ha, hb, okp, okq, e.symm, gb, fun H2 r e2 nr hr => ?_⟩
        refine k H2 r e2 nr ?_
        rw [apart_eq]
        exact hr
      · rw [on] at k
        refine tru (decide_eq_true hv) ⟨_, rfl, by show 1 ≤ sizeLine; decide, fun r hr => ?_⟩
        exact k _ r ((Same.refl H).new hr) hr upd_same
    · rw [hz]
      rw [if_pos e] at k
      refine tru rfl ⟨_, rfl, by show 1 ≤ sizeLine; decide, fun r hr => ?_⟩
      exact k _ r ((Same.refl H).new hr) hr upd_same
theorem manyNo_cases (n : Nat) (l : List Int) : (manyNo n l = 0 ∧ l.length = n) ∨ (manyNo n l = -5 ∧ l.length ≠ n) := by
  unfold manyNo
  by_cases c : l.length = n
  · exact .inl ⟨if_neg (fun h => h c), c⟩
  · exact .inr ⟨if_pos c, c⟩
abbrev sEndsAnswer : Stmt := top 80
theorem scEndsAnswer : FnScope ["program", "lo", "hi", "values", "refused"] ["program", "lo", "hi", "values"] (defScope sEndsAnswer) := ⟨rfl, rfl, rfl, by decide +kernel, rfl, by decide +kernel, by decide +kernel⟩
def spEndsAnswer : Sp := fun vs H Q _ => ∃ (a b : Addr) (lo hi : Int) (p : ProgT) (l : List Int), vs = [.ref a, .int lo, .int hi, .ref b] ∧ ProgAt H a p ∧ IsI H b l ∧ GoodProg p ∧ GoodBox p.counters lo hi ∧
  ∀ (H' : Hp) (r : Addr), Same H H' → H r = none → IsI H' r (if l.length ≠ p.counters then [-5] else endsM (fun v => (Vaacle.leapt p v).how == .over && (Vaacle.leapt p v).values == l) (boxOf lo hi p.counters)) → Q (.ref r) H'
theorem ok_ends_answer (DManyRefused : Def P w K mg base CX0 1 "many_refused" ["counters", "values"] spManyRefused f1 d1)
    (DEnds : Def P w K mg base CX0 12 "ends" ["program", "lo", "hi", "wanted"] spEnds f3 d3)
    {f : Addr} {fd : FuncData} (F : Fun K "ends_answer" "ends_answer" sEndsAnswer f fd) : FnOk P w K mg base CX0 13 f fd ["program", "lo", "hi", "values"] spEndsAnswer := by
  refine F.ok scEndsAnswer (fun vs H Q E h => ?_) (fun cdv A outer s H vs Q E hr h => ⟨_, pss_cons (ps_set (i := 4) scEndsAnswer.nd rfl (.inl rfl) (pe_call DManyRefused.ok (hr.mono (by decide)) rfl DManyRefused.m DManyRefused.kp DManyRefused.b .nil pass0 (pa_cons (pe_ix ix_tup (pv 0) pe_int (fun _ _ => rfl)) (pa_cons (pv 3) pa_nil)))) (pss_cons (ps_if (pt_cmp (pc_lt (pv 4) pe_int)) (pss_one (ps_ret (pe_lst (pa_cons (pv 4) pa_nil)))) pss_nil) (pss_one (ps_ret (pe_call DEnds.ok (hr.mono (by decide)) rfl DEnds.m DEnds.kp DEnds.b .nil pass0 (pa_cons (pv 0) (pa_cons (pv 1) (pa_cons (pv 2) (pa_cons (pv 3) pa_nil)))))))), ?_⟩)
  · obtain ⟨a, b, lo, hi, p, l, rfl, _⟩ := h
    rfl
  · obtain ⟨a, b, lo, hi, p, l, rfl, ha, hb, ok, gb, k⟩ := h
    obtain ⟨pl, hX, _⟩ := id ha
    refine ⟨_, rfl, a, _, _, _, rfl, rfl, SqT.of hX, atI_nat (j := 0) rfl, _, rfl, b, p.counters, l, rfl, hb, ?_⟩
    refine ⟨_, rfl, _, _, rfl, rfl, _, rfl, ?_⟩
    rcases manyNo_cases p.counters l with ⟨hz, e⟩ | ⟨hz, e⟩
    · rw [hz]
      rw [if_neg (fun h => h e)] at k
      exact fls rfl ⟨_, rfl, _, rfl, _, rfl, _, rfl, a, b, lo, hi, p, l, rfl, ha, hb, ok, gb, k⟩
    · rw [hz]
      rw [if_pos e] at k
      refine tru rfl ⟨_, rfl, by show 1 ≤ sizeLine; decide, fun r hr => ?_⟩
      exact k _ r ((Same.refl H).new hr) hr upd_same
abbrev sBoxAnswer : Stmt := top 81
theorem scBoxAnswer : FnScope ["place", "program", "lo", "hi", "values", "refused"] ["place", "program", "lo", "hi", "values"] (defScope sBoxAnswer) := ⟨rfl, rfl, rfl, by decide +kernel, rfl, by decide +kernel, by decide +kernel⟩
def boxM (pc : Int) (p : ProgT) (lo hi : Int) (l : List Int) : List Int := if pc = 7 then endsS p lo hi l else if pc = 8 then longestS p lo hi else if pc = 9 then neverS p lo hi else countsS p lo hi
def spBoxAnswer : Sp := fun vs H Q _ => ∃ (pc : Int) (a b : Addr) (lo hi : Int) (p : ProgT) (l : List Int), vs = [.int pc, .ref a, .int lo, .int hi, .ref b] ∧ ProgAt H a p ∧ IsI H b l ∧ GoodProg p ∧
  ∀ (H' : Hp) (r : Addr), Same H H' → H r = none → IsI H' r (boxM pc p lo hi l) → Q (.ref r) H'
theorem ok_box_answer (DBoxRefused : Def P w K mg base CX0 2 "box_refused" ["counters", "lo", "hi"] spBoxRefused f1 d1) (DEndsAnswer : Def P w K mg base CX0 13 "ends_answer" ["program", "lo", "hi", "values"] spEndsAnswer f2 d2)
    (DLongest : Def P w K mg base CX0 12 "longest" ["program", "lo", "hi"] spLongest f3 d3) (DNever : Def P w K mg base CX0 12 "never" ["program", "lo", "hi"] spNever f4 d4) (DCounts : Def P w K mg base CX0 12 "counts" ["program", "lo", "hi"] spCounts f5 d5)
    {f : Addr} {fd : FuncData} (F : Fun K "box_answer" "box_answer" sBoxAnswer f fd) : FnOk P w K mg base CX0 14 f fd ["place", "program", "lo", "hi", "values"] spBoxAnswer := by
  refine F.ok scBoxAnswer (fun vs H Q E h => ?_) (fun cdv A outer s H vs Q E hr h => ⟨_, pss_cons (ps_set (i := 5) scBoxAnswer.nd rfl (.inl rfl) (pe_call DBoxRefused.ok (hr.mono (by decide)) rfl DBoxRefused.m DBoxRefused.kp DBoxRefused.b .nil pass0 (pa_cons (pe_ix ix_tup (pv 1) pe_int (fun _ _ => rfl)) (pa_cons (pv 2) (pa_cons (pv 3) pa_nil))))) (pss_cons (ps_if (pt_cmp (pc_lt (pv 5) pe_int)) (pss_one (ps_ret (pe_lst (pa_cons (pv 5) pa_nil)))) pss_nil) (pss_cons (ps_if (pt_cmp (pc_eqI (pv 0) pe_int)) (pss_one (ps_ret (pe_call DEndsAnswer.ok (hr.mono (by decide)) rfl DEndsAnswer.m DEndsAnswer.kp DEndsAnswer.b .nil pass0 (pa_cons (pv 1) (pa_cons (pv 2) (pa_cons (pv 3) (pa_cons (pv 4) pa_nil))))))) pss_nil) (pss_cons (ps_if (pt_cmp (pc_eqI (pv 0) pe_int)) (pss_one (ps_ret (pe_call DLongest.ok (hr.mono (by decide)) rfl DLongest.m DLongest.kp DLongest.b .nil pass0 (pa_cons (pv 1) (pa_cons (pv 2) (pa_cons (pv 3) pa_nil)))))) pss_nil) (pss_cons (ps_if (pt_cmp (pc_eqI (pv 0) pe_int)) (pss_one (ps_ret (pe_call DNever.ok (hr.mono (by decide)) rfl DNever.m DNever.kp DNever.b .nil pass0 (pa_cons (pv 1) (pa_cons (pv 2) (pa_cons (pv 3) pa_nil)))))) pss_nil) (pss_one (ps_ret (pe_call DCounts.ok (hr.mono (by decide)) rfl DCounts.m DCounts.kp DCounts.b .nil pass0 (pa_cons (pv 1) (pa_cons (pv 2) (pa_cons (pv 3) pa_nil)))))))))), ?_⟩)
  · obtain ⟨pc, a, b, lo, hi, p, l, rfl, _⟩ := h
    rfl
  · obtain ⟨pc, a, b, lo, hi, p, l, rfl, ha, hb, ok, k⟩ := h
    obtain ⟨pl, hX, _⟩ := id ha
    refine ⟨_, rfl, a, _, _, _, rfl, rfl, SqT.of hX, atI_nat (j := 0) rfl, _, rfl, _, rfl, p.counters, lo, hi, rfl, ok.n4, ?_⟩
    refine ⟨_, rfl, _, _, rfl, rfl, _, rfl, ?_⟩
    unfold boxM endsS longestS neverS countsS at k
    rcases box_cases ok.n1 lo hi with ⟨hv, gb, on⟩ | ⟨hv, on⟩
    · rw [hv]
      rw [on, on, on, on] at k
      dsimp only at k
      refine fls rfl ⟨_, rfl, _, _, rfl, rfl, _, rfl, ?_⟩
      by_cases c7 : pc = 7
      · rw [if_pos c7] at k
        exact tru (decide_eq_true c7) ⟨_, rfl, _, rfl, _, rfl, _, rfl, a, b, lo, hi, p, l, rfl, ha, hb, ok, gb, k⟩
      · rw [if_neg c7] at k
        refine fls (decide_eq_false c7) ⟨_, rfl, _, _, rfl, rfl, _, rfl, ?_⟩
        by_cases c8 : pc = 8
        · rw [if_pos c8] at k
          refine tru (decide_eq_true c8) ⟨_, rfl, _, rfl, _, rfl, a, lo, hi, p, rfl, ha, ok, gb, fun H' r e nr hr => k H' r e nr ?_⟩
          rw [← longest_eq] at hr
          exact hr
        · rw [if_neg c8] at k
          refine fls (decide_eq_false c8) ⟨_, rfl, _, _, rfl, rfl, _, rfl, ?_⟩
          by_cases c9 : pc = 9
          · rw [if_pos c9] at k
            exact tru (decide_eq_true c9) ⟨_, rfl, _, rfl, _, rfl, a, lo, hi, p, rfl, ha, ok, gb, k⟩
          · rw [if_neg c9] at k
            refine fls (decide_eq_false c9) ⟨_, rfl, _, rfl, _, rfl, a, lo, hi, p, rfl, ha, ok, gb, fun H' r e nr hr => k H' r e nr ?_⟩
            rw [← counts_eq] at hr
            exact hr
    · rw [on, on, on, on, ite_self, ite_self, ite_self] at k
      refine tru (decide_eq_true hv) ⟨_, rfl, by show 1 ≤ sizeLine; decide, fun r hr => ?_⟩
      exact k _ r ((Same.refl H).new hr) hr upd_same
end
end Lp
namespace Lp
open PySem PySem.Spec PyProof.Rows L2
open VaaclBase (Values readProgram whole)
open Vaacle (State Call)
/-! ## The object -/
structure MchOf (K : PySem.W.Frag) (mg : Str → Option Value) (CM : Addr) : Prop where
  cl : Cls K CM
  nP : NoAttr K CM "programs"
  g : mg "Machine" = some (.ref CM)
def mF (pl : Addr) : List (Str × V) := [("programs", .ref pl)]
theorem mF_programs (pl : Addr) : (mF pl).lookup ("programs" : Str) = some (.ref pl) := by
  have e : (("programs" : Str) == ("programs" : Str)) = true := by decide +kernel
  simp only [mF, List.lookup, e]
theorem mF_answer (pl : Addr) : (mF pl).lookup ("answer" : Str) = none := by
  have e : (("answer" : Str) == ("programs" : Str)) = false := by decide +kernel
  simp only [mF, List.lookup, e]
theorem mF_replace (pl : Addr) : (mF pl).lookup ("replace_program" : Str) = none := by
  have e : (("replace_program" : Str) == ("programs" : Str)) = false := by decide +kernel
  simp only [mF, List.lookup, e]
def MachAt (CM pl : Addr) (J H : Hp) (m : Addr) (s : State) : Prop := ∃ (dx t0 t1 : Addr), H m = some (.ins CM dx (mF pl)) ∧ H pl = some (.lst [.ref t0, .ref t1]) ∧ Same J H ∧ J pl = none ∧
  ProgAt J t0 s.first ∧ ProgAt J t1 s.second ∧ GoodProg s.first ∧ GoodProg s.second
theorem MachAt.put {CM pl : Addr} {J H : Hp} {m o : Addr} {s : State} {u : HO} (h : MachAt CM pl J H m s) (hj : J o = none) (hm : m ≠ o) (hp : pl ≠ o) : MachAt CM pl J (upd H o u) m s := by
  obtain ⟨dx, t0, t1, h1, h2, h3, h4⟩ := h
  exact ⟨dx, t0, t1, (upd_ne hm).trans h1, (upd_ne hp).trans h2, h3.put hj, h4⟩
theorem MachAt.same {CM pl : Addr} {J H H' : Hp} {m : Addr} {s : State} (h : MachAt CM pl J H m s) (e : Same H H') : MachAt CM pl J H' m s := by
  obtain ⟨dx, t0, t1, h1, h2, h3, h4⟩ := h
  exact ⟨dx, t0, t1, e _ _ h1, e _ _ h2, h3.trans e, h4⟩
theorem same_join {J J2 H : Hp} (a : Same J H) (b : Same J2 H) : ∃ U : Hp, Same U H ∧ Same J U ∧ Same J2 U ∧ ∀ p, J p = none → J2 p = none → U p = none := by
  refine ⟨fun x => match J x with | some o => some o | none => J2 x, fun x o hx => ?_, fun x o hx => ?_, fun x o hx => ?_, fun p ja jb => ?_⟩
  · dsimp only at hx
    cases hj : J x with
    | some u =>
      rw [hj] at hx
      cases hx
      exact a x _ hj
    | none =>
      rw [hj] at hx
      exact b x o hx
  · dsimp only
    rw [hx]
  · dsimp only
    cases hj : J x with
    | none => exact hx
    | some u =>
      have h1 := a x u hj
      have h2 := b x o hx
      rw [h1] at h2
      exact h2
  · dsimp only
    rw [ja]
    exact jb
theorem good_start : GoodProg ⟨1, []⟩ := ⟨Nat.le_refl _, by show 1 ≤ 4; omega, by show 0 ≤ 5; omega, fun x hx => absurd hx List.not_mem_nil⟩
section
variable {P : Program} {w : World} {K : PySem.W.Frag} {mg : Str → Option Value} {base : Heap} {CM CN f1 f2 f3 f4 f5 f6 : Addr} {d1 d2 d3 d4 d5 d6 : FuncData}
abbrev sMachineInit : Stmt := inClass (top 82) 0
theorem scMachineInit : FnScope ["self"] ["self"] (defScope sMachineInit) := ⟨rfl, rfl, rfl, by decide +kernel, rfl, by decide +kernel, by decide +kernel⟩
def spMachineInit (C : Addr) : Sp := fun vs H Q _ => ∃ (p dx : Addr), vs = [.ref p] ∧ H p = some (.ins C dx []) ∧ ∀ (H' J : Hp) (pl : Addr), But p H H' → H pl = none → MachAt C pl J H' p Vaacle.start → Q .non H'
theorem ok_machine_init (T : MchOf K mg CM) {f : Addr} {fd : FuncData} (F : Fun K "__init__" "Machine.__init__" sMachineInit f fd) : FnOk P w K mg base CX0 1 f fd ["self"] (spMachineInit CM) := by
  refine F.ok scMachineInit (fun vs H Q E h => ?_) (fun cdv A outer s H vs Q E hr h => ⟨_, pss_one (ps_fld (pv 0) (pe_lst (pa_cons (pe_tup (pa_cons pe_int (pa_cons (pe_lst pa_nil) pa_nil))) (pa_cons (pe_tup (pa_cons pe_int (pa_cons (pe_lst pa_nil) pa_nil))) pa_nil))) rfl), ?_⟩)
  · obtain ⟨p, dx, rfl, _⟩ := h
    rfl
  · obtain ⟨p, dx, rfl, hp, k⟩ := h
    refine ⟨by show 0 ≤ sizeLine; decide, fun l0 n0 => ⟨by show 2 ≤ sizeLine; decide, fun t0 m0 => ⟨by show 0 ≤ sizeLine; decide, fun l1 n1 => ⟨by show 2 ≤ sizeLine; decide, fun t1 m1 => ⟨by show 2 ≤ sizeLine; decide, fun pl n2 => ?_⟩⟩⟩⟩⟩
    generalize hHA : upd H l0 (.lst []) = HA at m0 n1 m1 n2 ⊢
    generalize hHB : upd HA t0 (.tup [.int 1, .ref l0]) = HB at n1 m1 n2 ⊢
    generalize hHC : upd HB l1 (.lst []) = HC at m1 n2 ⊢
    generalize hHD : upd HC t1 (.tup [.int 1, .ref l1]) = HD at n2 ⊢
    have eA : Same H HA := by rw [← hHA]; exact (Same.refl H).new n0
    have eB : Same HA HB := by rw [← hHB]; exact (Same.refl HA).new m0
    have eC : Same HB HC := by rw [← hHC]; exact (Same.refl HB).new n1
    have eD : Same HC HD := by rw [← hHD]; exact (Same.refl HC).new m1
    have hl0 : HD l0 = some (.lst []) := eD _ _ (eC _ _ (eB _ _ (by rw [← hHA]; exact upd_same)))
    have ht0 : HD t0 = some (.tup [.int 1, .ref l0]) := eD _ _ (eC _ _ (by rw [← hHB]; exact upd_same))
    have hl1 : HD l1 = some (.lst []) := eD _ _ (by rw [← hHC]; exact upd_same)
    have ht1 : HD t1 = some (.tup [.int 1, .ref l1]) := by rw [← hHD]; exact upd_same
    have eAll : Same H HD := ((eA.trans eB).trans eC).trans eD
    have hpD : HD p = some (.ins CM dx []) := eAll _ _ hp
    have eE : Same HD (upd HD pl (.lst [.ref t0, .ref t1])) := (Same.refl HD).new n2
    have hpl : p ≠ pl := ne_of_none hpD n2
    refine ⟨_, rfl, p, CM, dx, _, rfl, eE _ _ hpD, T.cl, T.nP, (by show 0 < 1000; decide), ?_⟩
    have npl : H pl = none := eAll.free n2
    have hJ : Same (fun b => if b = p ∨ b = pl then none else HD b) (upd (upd HD pl (.lst [.ref t0, .ref t1])) p (.ins CM dx (putF "programs" (.ref pl) []))) := by
      intro b o hb
      dsimp only at hb
      by_cases c : b = p ∨ b = pl
      · rw [if_pos c] at hb
        cases hb
      · rw [if_neg c] at hb
        rw [upd_ne (fun z => c (.inl z)), upd_ne (fun z => c (.inr z))]
        exact hb
    have inJ : ∀ b o, HD b = some o → b ≠ p → (fun b => if b = p ∨ b = pl then none else HD b) b = some o := fun b o hb hbp => by
      show (if b = p ∨ b = pl then none else HD b) = some o
      rw [if_neg (fun h => h.elim hbp fun z => by
        rw [z, n2] at hb
        cases hb)]
      exact hb
    refine k _ _ pl (fun b o hbp hb => ?_) npl ⟨dx, t0, t1, ?_, ?_, hJ, ?_, ⟨l0, inJ _ _ ht0 ?_, [], inJ _ _ hl0 ?_, trivial⟩, ⟨l1, inJ _ _ ht1 ?_, [], inJ _ _ hl1 ?_, trivial⟩, good_start, good_start⟩
    · rw [upd_ne hbp]
      exact eE _ _ (eAll _ _ hb)
    · rw [upd_same]
      rfl
    · rw [upd_ne hpl.symm]
      exact upd_same
    · exact if_pos (.inr rfl)
    · exact ne_of ht0 hpD (by intro z; cases z)
    · exact ne_of hl0 hpD (by intro z; cases z)
    · exact ne_of ht1 hpD (by intro z; cases z)
    · exact ne_of hl1 hpD (by intro z; cases z)
abbrev sMachineReplaceProgram : Stmt := inClass (top 82) 1
theorem scMachineReplaceProgram : FnScope ["self", "which", "row", "program"] ["self", "which", "row"] (defScope sMachineReplaceProgram) := ⟨rfl, rfl, rfl, by decide +kernel, rfl, by decide +kernel, by decide +kernel⟩
def progM (s : State) (w : Int) (l : List Int) : State × List Int := match whole readProgram l with
  | none => (s, [-1])
  | some p => (if w = 0 then { s with first := p } else { s with second := p }, [VaaclBase.int p.counters, VaaclBase.int p.pieces.length])
def spReplaceProgram (CM : Addr) : Sp := fun vs H Q _ => ∃ (m pl ra : Addr) (J : Hp) (s : State) (w : Int) (l : List Int), vs = [.ref m, .int w, .ref ra] ∧ (w = 0 ∨ w = 1) ∧ MachAt CM pl J H m s ∧ IsI H ra l ∧
  ∀ (H' J' : Hp) (r : Addr), But pl H H' → MachAt CM pl J' H' m (progM s w l).1 → (∀ o u, H o = some u → J o = none → J' o = none) → H r = none → IsI H' r (progM s w l).2 → Q (.ref r) H'
theorem ok_replace_program (G : NamesOf mg) (T : MchOf K mg CM) (TNot : NotOf K mg CN) (DReadProgram : Def P w K mg base (L2.CX P w) 6 "read_program" ["numbers"] (spReadProgram CN) f1 d1)
    {f : Addr} {fd : FuncData} (F : Fun K "replace_program" "Machine.replace_program" sMachineReplaceProgram f fd) : FnOk P w K mg base CX0 7 f fd ["self", "which", "row"] (spReplaceProgram CM) := by
  refine F.ok scMachineReplaceProgram (fun vs H Q E h => ?_) (fun cdv A outer s H vs Q E hr h => ⟨_, pss_cons (ps_try_only (tb := (fun W => tAsg (tCallS (spReadProgram CN) (WE W) (tCons (tVar 2) tNil)) (gName 3))) (ts := (fun _ _ _ => tRet (tLst (tCons (tUn (rU fun i => .int (-i)) (tC (.int 1))) tNil)))) (Wout := fun _ _ _ _ => False) rfl rfl ⟨rfl, by decide, Or.inl TNot.g⟩ takes0 (fun W pn xe tk _ => (pss_one (ps_set (i := 3) scMachineReplaceProgram.nd rfl (.inl rfl) (pe_callS DReadProgram.ok (hr.mono (by decide)) rfl DReadProgram.m DReadProgram.kp DReadProgram.b (fun σ => passAt tk σ) (pa_cons (pv 2) pa_nil))))) (fun _ _ _ _ _ _ _ => (pss_one (ps_ret (pe_lst (pa_cons (pe_un un_neg pe_int) pa_nil)))))) (pss_cons (ps_asg (pv 3) (pg_sub (pe_fld (pv 0) rfl) (pv 1) set_list)) (pss_one (ps_ret (pe_lst (pa_cons (pe_ix ix_tup (pv 3) pe_int (fun _ _ => rfl)) (pa_cons (pe_callB call_len_seq (by rfl) G.len PySem.boot_len (pa_cons (pe_ix ix_tup (pv 3) pe_int (fun _ _ => rfl)) pa_nil)) pa_nil)))))), ?_⟩)
  · obtain ⟨m, pl, ra, J0, s, z, l, rfl, _⟩ := h
    rfl
  · obtain ⟨m, pl, ra, J0, s, z, l, rfl, hz, hM, hl, k⟩ := h
    unfold progM at k
    refine ⟨_, rfl, ra, l, rfl, hl, fun hn H1 e1 => ?_, fun p hp H1 J t e1 own hP => ?_⟩
    · rw [hn] at k
      refine ⟨true, TNot.e, fun _ a0 _ => ?_, fun q => Bool.noConfusion q⟩
      refine ⟨_, rfl, by show 1 ≤ sizeLine; decide, fun r hr0 => ?_⟩
      exact k _ _ r (fun b o _ hb => e1.new hr0 b o hb) (hM.same (e1.new hr0)) (fun _ _ _ h => h) (e1.free hr0) upd_same
    · rw [hp] at k
      obtain ⟨y, hy⟩ : ∃ y, readProgram l = some (p, y) := by
        unfold whole at hp
        cases hh : readProgram l with
        | none =>
          rw [hh] at hp
          cases hp
        | some u =>
          obtain ⟨u, y⟩ := u
          rw [hh] at hp
          cases y with
          | nil =>
            have hp : some u = some p := hp
            cases hp
            exact ⟨[], rfl⟩
          | cons a r =>
            have hp : (none : Option ProgT) = some p := hp
            cases hp
      have good := program_good hy
      obtain ⟨dx, t0, t1, h1, h2, sJ, jn, p0, p1, g0, g1⟩ := hM
      have jpl : J pl = none := own.2 _ _ h2
      obtain ⟨U, uH, u0, uJ, uno⟩ := same_join (sJ.trans e1) own.1
      have un : U pl = none := uno pl jn jpl
      have hP' := hP.same own.1
      obtain ⟨pa, hT, ps, hpa, eP⟩ := id hP
      have tpl : t ≠ pl := ne_of_none hT jpl
      have papl : pa ≠ pl := ne_of_none hpa jpl
      have mpl : m ≠ pl := ne_of h1 h2 (by intro z; cases z)
      have set1 : ∀ j : Nat, j = 0 ∨ j = 1 → ∀ (s' : State), (s' = if j = 0 then { s with first := p } else { s with second := p }) → MachAt CM pl U (upd H1 pl (.lst ([V.ref t0, .ref t1].set j (.ref t)))) m s' := by
        intro j hj s' hs'
        have base : (upd H1 pl (.lst ([V.ref t0, .ref t1].set j (.ref t)))) m = some (.ins CM dx (mF pl)) := (upd_ne mpl).trans (e1 _ _ h1)
        have su : Same U (upd H1 pl (.lst ([V.ref t0, .ref t1].set j (.ref t)))) := uH.put un
        rcases hj with rfl | rfl
        · rw [hs', if_pos rfl]
          exact ⟨dx, t, t1, base, upd_same, su, un, hP.same uJ, p1.same u0, good, g1⟩
        · rw [hs', if_neg (by decide)]
          exact ⟨dx, t0, t, base, upd_same, su, un, p0.same u0, hP.same uJ, g0, good⟩
      obtain ⟨j, hj, hjz⟩ : ∃ j : Nat, (j = 0 ∨ j = 1) ∧ z = (j : Int) := by
        rcases hz with rfl | rfl
        · exact ⟨0, .inl rfl, rfl⟩
        · exact ⟨1, .inr rfl, rfl⟩
      have m2 := set1 j hj (if z = 0 then { s with first := p } else { s with second := p }) (by
        rcases hj with rfl | rfl
        · rw [hjz]
          rfl
        · rw [hjz]
          rfl)
      refine ⟨_, rfl, _, rfl, m, CM, dx, _, _, rfl, e1 _ _ h1, T.cl, T.nP, mF_programs pl, _, rfl, pl, _, _, j, rfl, rfl, e1 _ _ h2, ?_, ?_⟩
      · rcases hj with rfl | rfl
        · rw [hjz]
          rfl
        · rw [hjz]
          rfl
      generalize hH2 : upd H1 pl (.lst ([V.ref t0, .ref t1].set j (.ref t))) = H2 at m2 ⊢
      have hT2 : H2 t = some (.tup [.int (p.counters : Int), .ref pa]) := by
        rw [← hH2]
        exact (upd_ne tpl).trans (own.1 _ _ hT)
      have hpa2 : H2 pa = some (.lst (ps.map V.ref)) := by
        rw [← hH2]
        exact (upd_ne papl).trans (own.1 _ _ hpa)
      refine ⟨_, rfl, t, _, _, _, rfl, rfl, SqT.of hT2, atI_nat (j := 0) rfl, _, rfl, t, _, _, _, rfl, rfl, SqT.of hT2, atI_nat (j := 1) rfl, pa, _, rfl, .inl (SqL.of hpa2), by show 2 ≤ sizeLine; decide, fun r hr0 => ?_⟩
      have b2 : But pl H H2 := fun b o hb hbo => by
        rw [← hH2, upd_ne hb]
        exact e1 _ _ hbo
      refine k _ _ r (b2.new hr0) (m2.same ((Same.refl H2).new hr0)) (fun o u hou hj => uno o hj (own.2 o u hou)) (b2.free ⟨_, by rw [← hH2]; exact upd_same⟩ hr0) ?_
      unfold IsI
      rw [upd_same, List.length_map, eP.length]
      rfl
end
end Lp
namespace Lp
open PySem PySem.Spec PyProof.Rows L2
open VaaclBase (Values readProgram whole)
open Vaacle (State Call)
/-! ## A call, as the code has it: its place, its whole numbers, its list -/
inductive CallIs : Int → List Int → List Int → Call → Prop where
  | program (w : Int) (l : List Int) : CallIs 0 [w] l (.program w l)
  | leap (w : Int) (l : List Int) : CallIs 1 [w] l (.leap w l)
  | run (w : Int) (l : List Int) : CallIs 2 [w] l (.run w l)
  | leaps (w : Int) (l : List Int) : CallIs 3 [w] l (.leaps w l)
  | piece (w k : Int) (l : List Int) : CallIs 4 [w, k] l (.piece w k l)
  | same (l : List Int) : CallIs 5 [] l (.same l)
  | apart (lo hi : Int) (l : List Int) : CallIs 6 [lo, hi] l (.apart lo hi)
  | ends (w lo hi : Int) (l : List Int) : CallIs 7 [w, lo, hi] l (.ends w lo hi l)
  | longest (w lo hi : Int) (l : List Int) : CallIs 8 [w, lo, hi] l (.longest w lo hi)
  | never (w lo hi : Int) (l : List Int) : CallIs 9 [w, lo, hi] l (.never w lo hi)
  | counts (w lo hi : Int) (l : List Int) : CallIs 10 [w, lo, hi] l (.counts w lo hi)
def wAns (pc : Int) (N : List Int) (p : ProgT) (R : List Int) : List Int := if pc ≤ 3 then runM pc p R else if pc = 4 then pieceM (N.headD 0) p R else boxM pc p (N.headD 0) (N.tail.headD 0) R
def progOf (s : State) (w : Int) : ProgT := if w = 0 then s.first else s.second
theorem onWhich_0 (s : State) (f : ProgT → List Int) {w : Int} (h : w = 0) : Vaacle.onWhich s w f = (s, f s.first) := by
  unfold Vaacle.onWhich
  rw [if_pos h]
theorem onWhich_1 (s : State) (f : ProgT → List Int) {w : Int} (h : w = 1) : Vaacle.onWhich s w f = (s, f s.second) := by
  unfold Vaacle.onWhich
  rw [if_neg (by omega), if_pos h]
theorem onWhich_no (s : State) (f : ProgT → List Int) {w : Int} (h : w ≠ 0 ∧ w ≠ 1) : Vaacle.onWhich s w f = (s, [-2]) := by
  unfold Vaacle.onWhich
  rw [if_neg h.1, if_neg h.2]
theorem onWhich_ok (s : State) (f : ProgT → List Int) {w : Int} (h : w = 0 ∨ w = 1) : Vaacle.onWhich s w f = (s, f (progOf s w)) := by
  unfold progOf
  rcases h with h | h
  · rw [onWhich_0 s f h, if_pos h]
  · rw [onWhich_1 s f h, if_neg (by omega)]
/-- a call of the places that tell which program -/
structure WhichIs (pc : Int) (N R : List Int) (c : Call) (x : Int) (Y : List Int) : Prop where
  n : N = x :: Y
  no : x ≠ 0 ∧ x ≠ 1 → ∀ s, Vaacle.step s c = (s, [-2])
  pr : pc = 0 → x = 0 ∨ x = 1 → ∀ s, Vaacle.step s c = progM s x R
  an : pc ≠ 0 → x = 0 ∨ x = 1 → ∀ s, Vaacle.step s c = (s, wAns pc Y (progOf s x) R)
  low : pc ≤ 3 → pc ≠ 0 → pc = 1 ∨ pc = 2 ∨ pc = 3
  four : pc = 4 → ∃ k, Y = [k]
  high : ¬ pc ≤ 3 → pc ≠ 4 → ∃ lo hi, Y = [lo, hi]
theorem which_is {pc : Int} {N R : List Int} {c : Call} (h : CallIs pc N R c) (h5 : pc ≠ 5) (h6 : pc ≠ 6) : ∃ x Y, WhichIs pc N R c x Y := by
  cases h with
  | program x l => exact ⟨x, [], rfl, fun h s => if_pos h, fun _ h s => (if_neg (fun hh => h.elim hh.1 hh.2)), fun h => absurd rfl h, fun _ h => absurd rfl h, fun h => absurd h (by decide), fun h => absurd (by decide) h⟩
  | leap x l => exact ⟨x, [], rfl, fun h s => onWhich_no s (fun p => wAns 1 [] p R) h, fun h => absurd h (by decide), fun _ h s => onWhich_ok s (fun p => wAns 1 [] p R) h, fun _ _ => by decide, fun h => absurd h (by decide), fun h => absurd (by decide) h⟩
  | run x l => exact ⟨x, [], rfl, fun h s => onWhich_no s (fun p => wAns 2 [] p R) h, fun h => absurd h (by decide), fun _ h s => onWhich_ok s (fun p => wAns 2 [] p R) h, fun _ _ => by decide, fun h => absurd h (by decide), fun h => absurd (by decide) h⟩
  | leaps x l => exact ⟨x, [], rfl, fun h s => onWhich_no s (fun p => wAns 3 [] p R) h, fun h => absurd h (by decide), fun _ h s => onWhich_ok s (fun p => wAns 3 [] p R) h, fun _ _ => by decide, fun h => absurd h (by decide), fun h => absurd (by decide) h⟩
  | piece x k l => exact ⟨x, [k], rfl, fun h s => onWhich_no s (fun p => wAns 4 [k] p R) h, fun h => absurd h (by decide), fun _ h s => onWhich_ok s (fun p => wAns 4 [k] p R) h, fun h => absurd h (by decide), fun _ => ⟨k, rfl⟩, fun _ h => absurd rfl h⟩
  | same l => exact absurd rfl h5
  | apart lo hi l => exact absurd rfl h6
  | ends x lo hi l => exact ⟨x, [lo, hi], rfl, fun h s => onWhich_no s (fun p => wAns 7 [lo, hi] p R) h, fun h => absurd h (by decide), fun _ h s => onWhich_ok s (fun p => wAns 7 [lo, hi] p R) h, fun h => absurd h (by decide), fun h => absurd h (by decide), fun _ _ => ⟨lo, hi, rfl⟩⟩
  | longest x lo hi l => exact ⟨x, [lo, hi], rfl, fun h s => onWhich_no s (fun p => wAns 8 [lo, hi] p R) h, fun h => absurd h (by decide), fun _ h s => onWhich_ok s (fun p => wAns 8 [lo, hi] p R) h, fun h => absurd h (by decide), fun h => absurd h (by decide), fun _ _ => ⟨lo, hi, rfl⟩⟩
  | never x lo hi l => exact ⟨x, [lo, hi], rfl, fun h s => onWhich_no s (fun p => wAns 9 [lo, hi] p R) h, fun h => absurd h (by decide), fun _ h s => onWhich_ok s (fun p => wAns 9 [lo, hi] p R) h, fun h => absurd h (by decide), fun h => absurd h (by decide), fun _ _ => ⟨lo, hi, rfl⟩⟩
  | counts x lo hi l => exact ⟨x, [lo, hi], rfl, fun h s => onWhich_no s (fun p => wAns 10 [lo, hi] p R) h, fun h => absurd h (by decide), fun _ h s => onWhich_ok s (fun p => wAns 10 [lo, hi] p R) h, fun h => absurd h (by decide), fun h => absurd h (by decide), fun _ _ => ⟨lo, hi, rfl⟩⟩
theorem same_is {N R : List Int} {c : Call} (h : CallIs 5 N R c) : ∀ s, Vaacle.step s c = (s, sameM s.first s.second R) := by
  cases h with
  | same l => exact fun s => rfl
theorem apart_is {N R : List Int} {c : Call} (h : CallIs 6 N R c) : ∃ lo hi, N = [lo, hi] ∧ ∀ s, Vaacle.step s c = (s, apartS s.first s.second lo hi) := by
  cases h with
  | apart lo hi l => exact ⟨lo, hi, rfl, fun s => rfl⟩
section
variable {P : Program} {w : World} {K : PySem.W.Frag} {mg : Str → Option Value} {base : Heap} {CM CN f1 f2 f3 f4 f5 f6 f7 : Addr} {d1 d2 d3 d4 d5 d6 d7 : FuncData}
abbrev sMachineAnswer : Stmt := inClass (top 82) 2
theorem scMachineAnswer : FnScope ["self", "place", "numbers", "row", "which", "refused", "program"] ["self", "place", "numbers", "row"] (defScope sMachineAnswer) := ⟨rfl, rfl, rfl, by decide +kernel, rfl, by decide +kernel, by decide +kernel⟩
def spMachineAnswer (CM : Addr) : Sp := fun vs H Q _ => ∃ (m pl na ra : Addr) (J : Hp) (s : State) (pc : Int) (N R : List Int) (c : Call), vs = [.ref m, .int pc, .ref na, .ref ra] ∧ MachAt CM pl J H m s ∧ IsI H na N ∧ IsI H ra R ∧ CallIs pc N R c ∧
  ∀ (H' J' : Hp) (r : Addr), But pl H H' → MachAt CM pl J' H' m (Vaacle.step s c).1 → (∀ o u, H o = some u → J o = none → J' o = none) → H r = none → IsI H' r (Vaacle.step s c).2 → Q (.ref r) H'
theorem ok_machine_answer (T : MchOf K mg CM) (DSameAnswer : Def P w K mg base CX0 13 "same_answer" ["first", "second", "values"] spSameAnswer f1 d1) (DApartAnswer : Def P w K mg base CX0 14 "apart_answer" ["first", "second", "lo", "hi"] spApartAnswer f2 d2)
    (DWhichRefused : Def P w K mg base CX0 1 "which_refused" ["which"] spWhichRefused f3 d3) (DMachineReplaceProgram : DefM P w K mg base CX0 7 CM "replace_program" ["self", "which", "row"] (spReplaceProgram CM) f4 d4)
    (DRunAnswer : Def P w K mg base CX0 12 "run_answer" ["place", "program", "values"] spRunAnswer f5 d5) (DPieceAnswer : Def P w K mg base CX0 11 "piece_answer" ["program", "at", "values"] spPieceAnswer f6 d6)
    (DBoxAnswer : Def P w K mg base CX0 14 "box_answer" ["place", "program", "lo", "hi", "values"] spBoxAnswer f7 d7)
    {f : Addr} {fd : FuncData} (F : Fun K "answer" "Machine.answer" sMachineAnswer f fd) : FnOk P w K mg base CX0 15 f fd ["self", "place", "numbers", "row"] (spMachineAnswer CM) := by
  have TMachine := T
  refine F.ok scMachineAnswer (fun vs H Q E h => ?_) (fun cdv A outer s H vs Q E hr h => ⟨_, pss_cons (ps_if (pt_cmp (pc_eqI (pv 1) pe_int)) (pss_one (ps_ret (pe_call DSameAnswer.ok (hr.mono (by decide)) rfl DSameAnswer.m DSameAnswer.kp DSameAnswer.b .nil pass0 (pa_cons (pe_ix ix_list (pe_fld (pv 0) rfl) pe_int (fun _ _ => rfl)) (pa_cons (pe_ix ix_list (pe_fld (pv 0) rfl) pe_int (fun _ _ => rfl)) (pa_cons (pv 3) pa_nil)))))) pss_nil) (pss_cons (ps_if (pt_cmp (pc_eqI (pv 1) pe_int)) (pss_one (ps_ret (pe_call DApartAnswer.ok (hr.mono (by decide)) rfl DApartAnswer.m DApartAnswer.kp DApartAnswer.b .nil pass0 (pa_cons (pe_ix ix_list (pe_fld (pv 0) rfl) pe_int (fun _ _ => rfl)) (pa_cons (pe_ix ix_list (pe_fld (pv 0) rfl) pe_int (fun _ _ => rfl)) (pa_cons (pe_ix ix_list (pv 2) pe_int (fun _ _ => rfl)) (pa_cons (pe_ix ix_list (pv 2) pe_int (fun _ _ => rfl)) pa_nil))))))) pss_nil) (pss_cons (ps_set (i := 4) scMachineAnswer.nd rfl (.inl rfl) (pe_ix ix_list (pv 2) pe_int (fun _ _ => rfl))) (pss_cons (ps_set (i := 5) scMachineAnswer.nd rfl (.inl rfl) (pe_call DWhichRefused.ok (hr.mono (by decide)) rfl DWhichRefused.m DWhichRefused.kp DWhichRefused.b .nil pass0 (pa_cons (pv 4) pa_nil))) (pss_cons (ps_if (pt_cmp (pc_lt (pv 5) pe_int)) (pss_one (ps_ret (pe_lst (pa_cons (pv 5) pa_nil)))) pss_nil) (pss_cons (ps_if (pt_cmp (pc_eqI (pv 1) pe_int)) (pss_one (ps_ret (pe_meth (pv 0) TMachine.cl DMachineReplaceProgram.meth DMachineReplaceProgram.ok (hr.mono (by decide)) DMachineReplaceProgram.b .nil pass0 (pa_cons (pv 4) (pa_cons (pv 3) pa_nil))))) pss_nil) (pss_cons (ps_set (i := 6) scMachineAnswer.nd rfl (.inl rfl) (pe_ix ix_list (pe_fld (pv 0) rfl) (pv 4) (fun _ _ => rfl))) (pss_cons (ps_if (pt_cmp (pc_le (pv 1) pe_int)) (pss_one (ps_ret (pe_call DRunAnswer.ok (hr.mono (by decide)) rfl DRunAnswer.m DRunAnswer.kp DRunAnswer.b .nil pass0 (pa_cons (pv 1) (pa_cons (pv 6) (pa_cons (pv 3) pa_nil)))))) pss_nil) (pss_cons (ps_if (pt_cmp (pc_eqI (pv 1) pe_int)) (pss_one (ps_ret (pe_call DPieceAnswer.ok (hr.mono (by decide)) rfl DPieceAnswer.m DPieceAnswer.kp DPieceAnswer.b .nil pass0 (pa_cons (pv 6) (pa_cons (pe_ix ix_list (pv 2) pe_int (fun _ _ => rfl)) (pa_cons (pv 3) pa_nil)))))) pss_nil) (pss_one (ps_ret (pe_call DBoxAnswer.ok (hr.mono (by decide)) rfl DBoxAnswer.m DBoxAnswer.kp DBoxAnswer.b .nil pass0 (pa_cons (pv 1) (pa_cons (pv 6) (pa_cons (pe_ix ix_list (pv 2) pe_int (fun _ _ => rfl)) (pa_cons (pe_ix ix_list (pv 2) pe_int (fun _ _ => rfl)) (pa_cons (pv 3) pa_nil)))))))))))))))), ?_⟩)
  · obtain ⟨m, pl, na, ra, J, s, pc, N, R, c, rfl, _⟩ := h
    rfl
  · obtain ⟨m, pl, na, ra, J, s, pc, N, R, c, rfl, hM, hN, hR, hc, k⟩ := h
    obtain ⟨dx, t0, t1, h1, h2, sJ, jn, p0, p1, g0, g1⟩ := id hM
    have q0 := p0.same sJ
    have q1 := p1.same sJ
    have same : ∀ {H' : Hp}, Same H H' → But pl H H' := fun e b o _ hb => e b o hb
    refine ⟨_, rfl, _, _, rfl, rfl, _, rfl, ?_⟩
    by_cases c5 : pc = 5
    · subst c5
      have st := same_is hc s
      rw [st] at k
      refine tru rfl ⟨_, rfl, m, CM, dx, _, _, rfl, h1, T.cl, T.nP, mF_programs pl, pl, _, _, _, rfl, rfl, SqL.of h2, atI_nat (j := 0) rfl, _, rfl, m, CM, dx, _, _, rfl, h1, T.cl, T.nP, mF_programs pl, pl, _, _, _, rfl, rfl, SqL.of h2, atI_nat (j := 1) rfl, _, rfl,
        t0, t1, ra, s.first, s.second, R, rfl, q0, q1, hR, g0, g1, fun H' r e nr hr0 => k H' J r (same e) (hM.same e) (fun _ _ _ h => h) nr hr0⟩
    · refine fls (decide_eq_false c5) ⟨_, rfl, _, _, rfl, rfl, _, rfl, ?_⟩
      by_cases c6 : pc = 6
      · subst c6
        obtain ⟨lo, hi, rfl, st⟩ := apart_is hc
        rw [st s] at k
        refine tru rfl ⟨_, rfl, m, CM, dx, _, _, rfl, h1, T.cl, T.nP, mF_programs pl, pl, _, _, _, rfl, rfl, SqL.of h2, atI_nat (j := 0) rfl, _, rfl, m, CM, dx, _, _, rfl, h1, T.cl, T.nP, mF_programs pl, pl, _, _, _, rfl, rfl, SqL.of h2, atI_nat (j := 1) rfl,
          _, rfl, na, _, _, _, rfl, rfl, SqL.of hN, atI_nat (j := 0) rfl, _, rfl, na, _, _, _, rfl, rfl, SqL.of hN, atI_nat (j := 1) rfl,
          t0, t1, lo, hi, s.first, s.second, rfl, q0, q1, g0, g1, fun H' r e nr hr0 => k H' J r (same e) (hM.same e) (fun _ _ _ h => h) nr hr0⟩
      · refine fls (decide_eq_false c6) ?_
        obtain ⟨x, Y, W⟩ := which_is hc c5 c6
        obtain rfl := W.n
        refine ⟨_, rfl, na, _, _, _, rfl, rfl, SqL.of hN, atI_nat (j := 0) rfl, ?_⟩
        refine ⟨_, rfl, x, rfl, ?_⟩
        refine ⟨_, rfl, _, _, rfl, rfl, _, rfl, ?_⟩
        unfold whichNo
        by_cases cx : x ≠ 0 ∧ x ≠ 1
        · rw [if_pos cx]
          rw [W.no cx s] at k
          refine tru rfl ⟨_, rfl, by show 1 ≤ sizeLine; decide, fun r hr0 => ?_⟩
          exact k _ J r (same ((Same.refl H).new hr0)) (hM.same ((Same.refl H).new hr0)) (fun _ _ _ h => h) hr0 upd_same
        · rw [if_neg cx]
          have ok : x = 0 ∨ x = 1 := by omega
          refine fls rfl ⟨_, rfl, _, _, rfl, rfl, _, rfl, ?_⟩
          by_cases cz : pc = 0
          · rw [W.pr cz ok s] at k
            refine tru (decide_eq_true cz) ?_
            exact ⟨_, rfl, m, dx, _, rfl, h1, mF_replace pl, _, rfl, _, rfl, m, pl, ra, J, s, x, R, rfl, ok, hM, hR, k⟩
          · rw [W.an cz ok s] at k
            refine fls (decide_eq_false cz) ?_
            obtain ⟨t, ht, hP, hG⟩ : ∃ t : Addr, atI [V.ref t0, .ref t1] x = some (.ref t) ∧ ProgAt H t (progOf s x) ∧ GoodProg (progOf s x) := by
              rcases ok with rfl | rfl
              · exact ⟨t0, atI_nat (j := 0) rfl, q0, g0⟩
              · exact ⟨t1, atI_nat (j := 1) rfl, q1, g1⟩
            refine ⟨_, rfl, m, CM, dx, _, _, rfl, h1, T.cl, T.nP, mF_programs pl, _, rfl, pl, _, _, _, rfl, rfl, SqL.of h2, ht, ?_⟩
            refine ⟨_, rfl, _, _, rfl, rfl, _, rfl, ?_⟩
            have kk : ∀ (H' : Hp) (r : Addr), Same H H' → H r = none → IsI H' r (wAns pc Y (progOf s x) R) → Q (.ref r) H' := fun H' r e nr hr0 => k H' J r (same e) (hM.same e) (fun _ _ _ h => h) nr hr0
            unfold wAns at kk
            by_cases c3 : pc ≤ 3
            · rw [if_pos c3] at kk
              refine tru (decide_eq_true c3) ⟨_, rfl, _, rfl, _, rfl, pc, t, ra, _, R, rfl, W.low c3 cz, hP, hR, hG, kk⟩
            · rw [if_neg c3] at kk
              refine fls (decide_eq_false c3) ⟨_, rfl, _, _, rfl, rfl, _, rfl, ?_⟩
              by_cases c4 : pc = 4
              · rw [if_pos c4] at kk
                obtain ⟨z, rfl⟩ := W.four c4
                refine tru (decide_eq_true c4) ⟨_, rfl, _, rfl, na, _, _, _, rfl, rfl, SqL.of hN, atI_nat (j := 1) rfl, _, rfl, t, ra, z, _, R, rfl, hP, hR, hG, kk⟩
              · rw [if_neg c4] at kk
                obtain ⟨lo, hi, rfl⟩ := W.high c3 c4
                refine fls (decide_eq_false c4) ⟨_, rfl, _, rfl, _, rfl, na, _, _, _, rfl, rfl, SqL.of hN, atI_nat (j := 1) rfl, _, rfl, na, _, _, _, rfl, rfl, SqL.of hN, atI_nat (j := 2) rfl, _, rfl, pc, t, ra, lo, hi, _, R, rfl, hP, hR, hG, kk⟩
end
end Lp
namespace Lp
open PySem PySem.Spec PyProof.Rows L2
open VaaclBase (Values readProgram whole)
open Vaacle (State Call)
/-! ## The calls, as they are told -/
def numbersOf : List Int := [1, 1, 1, 1, 2, 0, 2, 3, 3, 3, 3]
def rowsOf : List Int := [1, 1, 1, 1, 1, 1, 0, 1, 0, 0, 0]
theorem len_1 {N : List Int} (h : N.length = 1) : ∃ a, N = [a] := match N, h with | [a], _ => ⟨a, rfl⟩
theorem len_2 {N : List Int} (h : N.length = 2) : ∃ a b, N = [a, b] := match N, h with | [a, b], _ => ⟨a, b, rfl⟩
theorem len_3 {N : List Int} (h : N.length = 3) : ∃ a b c, N = [a, b, c] := match N, h with | [a, b, c], _ => ⟨a, b, c, rfl⟩
structure Place (pc : Int) (n q : Nat) (j : Nat) : Prop where
  hp : pc = (j : Int)
  hn : numbersOf[j]? = some (n : Int)
  hr : rowsOf[j]? = some (q : Int)
  hq : q = 0 ∨ q = 1
  hc : ∀ N R : List Int, N.length = n → (q = 0 → R = []) → ∃ call, CallIs pc N R call ∧ VaacleNeutral.callOf ((pc :: N) :: (if q = 0 then [] else [R])) = some call
theorem place_1 {pc : Int} {j : Nat} (hj : j < 4) (h : pc = (j : Int)) : Place pc 1 1 j := by
  subst h
  have hc : j = 0 ∨ j = 1 ∨ j = 2 ∨ j = 3 := by omega
  rcases hc with rfl | rfl | rfl | rfl
  · exact ⟨rfl, rfl, rfl, .inr rfl, fun N R hN _ => by obtain ⟨a, rfl⟩ := len_1 hN; exact ⟨_, .program a R, rfl⟩⟩
  · exact ⟨rfl, rfl, rfl, .inr rfl, fun N R hN _ => by obtain ⟨a, rfl⟩ := len_1 hN; exact ⟨_, .leap a R, rfl⟩⟩
  · exact ⟨rfl, rfl, rfl, .inr rfl, fun N R hN _ => by obtain ⟨a, rfl⟩ := len_1 hN; exact ⟨_, .run a R, rfl⟩⟩
  · exact ⟨rfl, rfl, rfl, .inr rfl, fun N R hN _ => by obtain ⟨a, rfl⟩ := len_1 hN; exact ⟨_, .leaps a R, rfl⟩⟩
theorem place_8 {pc : Int} {j : Nat} (hj : 8 ≤ j ∧ j < 11) (h : pc = (j : Int)) : Place pc 3 0 j := by
  subst h
  have hc : j = 8 ∨ j = 9 ∨ j = 10 := by omega
  rcases hc with rfl | rfl | rfl
  · exact ⟨rfl, rfl, rfl, .inl rfl, fun N R hN _ => by obtain ⟨a, b, c, rfl⟩ := len_3 hN; exact ⟨_, .longest a b c R, rfl⟩⟩
  · exact ⟨rfl, rfl, rfl, .inl rfl, fun N R hN _ => by obtain ⟨a, b, c, rfl⟩ := len_3 hN; exact ⟨_, .never a b c R, rfl⟩⟩
  · exact ⟨rfl, rfl, rfl, .inl rfl, fun N R hN _ => by obtain ⟨a, b, c, rfl⟩ := len_3 hN; exact ⟨_, .counts a b c R, rfl⟩⟩
theorem place_4 {pc : Int} (h : pc = 4) : Place pc 2 1 4 := by
  subst h
  exact ⟨rfl, rfl, rfl, .inr rfl, fun N R hN _ => by obtain ⟨a, b, rfl⟩ := len_2 hN; exact ⟨_, .piece a b R, rfl⟩⟩
theorem place_5 {pc : Int} (h : pc = 5) : Place pc 0 1 5 := by
  subst h
  exact ⟨rfl, rfl, rfl, .inr rfl, fun N R hN _ => by obtain rfl := List.length_eq_zero_iff.mp hN; exact ⟨_, .same R, rfl⟩⟩
theorem place_6 {pc : Int} (h : pc = 6) : Place pc 2 0 6 := by
  subst h
  exact ⟨rfl, rfl, rfl, .inl rfl, fun N R hN _ => by obtain ⟨a, b, rfl⟩ := len_2 hN; exact ⟨_, .apart a b R, rfl⟩⟩
theorem place_7 {pc : Int} (h : pc = 7) : Place pc 3 1 7 := by
  subst h
  exact ⟨rfl, rfl, rfl, .inr rfl, fun N R hN _ => by obtain ⟨a, b, c, rfl⟩ := len_3 hN; exact ⟨_, .ends a b c R, rfl⟩⟩
theorem shape_is {pc : Int} {n q : Nat} (h : PyVaacle.shape pc = some (n, q)) : ∃ j, Place pc n q j := by
  unfold PyVaacle.shape at h
  by_cases c0 : pc = 0
  · rw [if_pos c0] at h
    cases h
    exact ⟨0, place_1 (by omega) c0⟩
  rw [if_neg c0] at h
  by_cases c1 : pc = 1
  · rw [if_pos c1] at h
    cases h
    exact ⟨1, place_1 (by omega) c1⟩
  rw [if_neg c1] at h
  by_cases c2 : pc = 2
  · rw [if_pos c2] at h
    cases h
    exact ⟨2, place_1 (by omega) c2⟩
  rw [if_neg c2] at h
  by_cases c3 : pc = 3
  · rw [if_pos c3] at h
    cases h
    exact ⟨3, place_1 (by omega) c3⟩
  rw [if_neg c3] at h
  by_cases c4 : pc = 4
  · rw [if_pos c4] at h
    cases h
    exact ⟨4, place_4 c4⟩
  rw [if_neg c4] at h
  by_cases c5 : pc = 5
  · rw [if_pos c5] at h
    cases h
    exact ⟨5, place_5 c5⟩
  rw [if_neg c5] at h
  by_cases c6 : pc = 6
  · rw [if_pos c6] at h
    cases h
    exact ⟨6, place_6 c6⟩
  rw [if_neg c6] at h
  by_cases c7 : pc = 7
  · rw [if_pos c7] at h
    cases h
    exact ⟨7, place_7 c7⟩
  rw [if_neg c7] at h
  by_cases c8 : pc = 8
  · rw [if_pos c8] at h
    cases h
    exact ⟨8, place_8 (by omega) c8⟩
  rw [if_neg c8] at h
  by_cases c9 : pc = 9
  · rw [if_pos c9] at h
    cases h
    exact ⟨9, place_8 (by omega) c9⟩
  rw [if_neg c9] at h
  by_cases c10 : pc = 10
  · rw [if_pos c10] at h
    cases h
    exact ⟨10, place_8 (by omega) c10⟩
  rw [if_neg c10] at h
  cases h
theorem whole_id (c : List (List Int)) : PyVaacle.whole c = c := by
  unfold PyVaacle.whole
  split <;> rfl
/-- one call at the head of the numbers: its parts, the rest -/
structure Head (pc : Int) (r : List Int) (c : List (List Int)) (t : List Int) (j n q : Nat) (R : List Int) (call : Call) : Prop where
  hp : pc = (j : Int)
  hn : numbersOf[j]? = some (n : Int)
  hr : rowsOf[j]? = some (q : Int)
  len : n ≤ r.length
  is : CallIs pc (r.take n) R call
  of : VaacleNeutral.callOf c = some call
  no : q = 0 → R = [] ∧ t = r.drop n
  yes : q ≠ 0 → ∃ (z : Nat) (r2 : List Int), r.drop n = (z : Int) :: r2 ∧ z ≤ r2.length ∧ R = r2.take z ∧ t = r2.drop z
theorem call_is {pc : Int} {r t : List Int} {c : List (List Int)} (h : PyFlat.call PyVaacle.shape (pc :: r) = some (c, t)) : ∃ j n q R call, Head pc r c t j n q R call := by
  have h : (match PyVaacle.shape pc with
    | none => none
    | some (n, k) => if r.length < n then none else match PyFlat.rows k (r.drop n) with
      | none => none
      | some (xs, t) => some ((pc :: r.take n) :: xs, t)) = some (c, t) := h
  cases hs : PyVaacle.shape pc with
  | none =>
    rw [hs] at h
    cases h
  | some nq =>
    obtain ⟨n, q⟩ := nq
    rw [hs] at h
    obtain ⟨j, pl⟩ := shape_is hs
    have h : (if r.length < n then none else match PyFlat.rows q (r.drop n) with
      | none => none
      | some (xs, t) => some ((pc :: r.take n) :: xs, t)) = some (c, t) := h
    by_cases hl : r.length < n
    · rw [if_pos hl] at h
      cases h
    · rw [if_neg hl] at h
      have tl : (r.take n).length = n := by rw [List.length_take]; omega
      rcases pl.hq with rfl | rfl
      · have h : some (((pc :: r.take n) :: [], r.drop n) : List (List Int) × List Int) = some (c, t) := h
        cases h
        obtain ⟨call, h1, h2⟩ := pl.hc (r.take n) [] tl (fun _ => rfl)
        exact ⟨j, n, 0, [], call, pl.hp, pl.hn, pl.hr, by omega, h1, h2, fun _ => ⟨rfl, rfl⟩, fun h => absurd rfl h⟩
      · have h : (match (match PyFlat.row (r.drop n) with
            | none => none
            | some (x, s) => some ([x], s)) with
          | none => none
          | some (xs, t) => some (((pc :: r.take n) :: xs, t) : List (List Int) × List Int)) = some (c, t) := h
        cases hd : r.drop n with
        | nil =>
          rw [hd] at h
          cases h
        | cons z r2 =>
          rw [hd] at h
          by_cases hz : 0 ≤ z ∧ z.toNat ≤ r2.length
          · have hrow : PyFlat.row (z :: r2) = some (r2.take z.toNat, r2.drop z.toNat) := if_pos hz
            rw [hrow] at h
            have h : some (((pc :: r.take n) :: [r2.take z.toNat], r2.drop z.toNat) : List (List Int) × List Int) = some (c, t) := h
            cases h
            obtain ⟨call, h1, h2⟩ := pl.hc (r.take n) (r2.take z.toNat) tl (fun h => absurd h (by decide))
            exact ⟨j, n, 1, _, call, pl.hp, pl.hn, pl.hr, by omega, h1, h2, fun h => absurd h (by decide), fun _ => ⟨z.toNat, r2, by rw [hd, Int.toNat_of_nonneg hz.1], hz.2, rfl, rfl⟩⟩
          · have hrow : PyFlat.row (z :: r2) = none := if_neg hz
            rw [hrow] at h
            cases h
theorem calls_cons {f : Nat} {pc : Int} {r : List Int} {cs : List (List (List Int))} (h : PyFlat.calls PyVaacle.shape f (pc :: r) = some cs) : ∃ f' c t cs', PyFlat.call PyVaacle.shape (pc :: r) = some (c, t) ∧ PyFlat.calls PyVaacle.shape f' t = some cs' ∧ cs = c :: cs' := by
  cases f with
  | zero => cases h
  | succ f =>
    have h : (match PyFlat.call PyVaacle.shape (pc :: r) with
      | none => none
      | some (c, t) => match PyFlat.calls PyVaacle.shape f t with
        | none => none
        | some cs => some (c :: cs)) = some cs := h
    cases h1 : PyFlat.call PyVaacle.shape (pc :: r) with
    | none =>
      rw [h1] at h
      cases h
    | some ct =>
      obtain ⟨c, t⟩ := ct
      rw [h1] at h
      have h : (match PyFlat.calls PyVaacle.shape f t with
        | none => none
        | some cs => some (c :: cs)) = some cs := h
      cases h2 : PyFlat.calls PyVaacle.shape f t with
      | none =>
        rw [h2] at h
        cases h
      | some cs' =>
        rw [h2] at h
        cases h
        exact ⟨f, c, t, cs', rfl, h2, rfl⟩
theorem calls_nil {f : Nat} {cs : List (List (List Int))} (h : PyFlat.calls PyVaacle.shape f [] = some cs) : cs = [] := by
  cases f with
  | zero => cases h; rfl
  | succ f => cases h; rfl
/-- what is answered to calls from a state -/
def restM (s : State) (cs : List (List (List Int))) : List Int := PyFlat.told (PyFlat.played VaacleNeutral.step s (cs.map PyVaacle.whole))
theorem rest_cons (s : State) (c : List (List Int)) (cs : List (List (List Int))) {call : Call} (h : VaacleNeutral.callOf c = some call) : restM s (c :: cs) = (((Vaacle.step s call).2.length : Nat) : Int) :: (Vaacle.step s call).2 ++ restM (Vaacle.step s call).1 cs := by
  have e : VaacleNeutral.step s (PyVaacle.whole c) = ((Vaacle.step s call).1, (Vaacle.step s call).2) := by
    rw [whole_id]
    unfold VaacleNeutral.step
    rw [h]
    rfl
  show PyFlat.told ((VaacleNeutral.step s (PyVaacle.whole c)).2 :: PyFlat.played VaacleNeutral.step (VaacleNeutral.step s (PyVaacle.whole c)).1 (cs.map PyVaacle.whole)) = _
  rw [e]
  rfl
theorem answers_of {nums : List Int} {cs : List (List (List Int))} (h : PyFlat.calls PyVaacle.shape nums.length nums = some cs) : PyVaacle.answers nums = restM Vaacle.start cs := by
  unfold PyVaacle.answers PyVaacle.calls
  rw [h]
  rfl
/-- a tuple of whole numbers that the text has -/
def GTup (K : PySem.W.Frag) (mg : Str → Option Value) (x : Str) (a : Addr) (ns : List Int) : Prop := mg x = some (.ref a) ∧ ∀ H : Hp, SqT K H a (ns.map V.int)
theorem get_map {l : List Int} {j : Nat} {n : Int} (h : l[j]? = some n) : (l.map V.int)[j]? = some (.int n) := by
  rw [List.getElem?_map, h]
  rfl
def leftAt (n : Nat) : Option (Option V) → Nat
  | some (some (.int z)) => n - z.toNat
  | _ => 0
theorem cut_none {xs : List V} {j k : Nat} (h : k ≤ j) : cutV xs (some (j : Int)) (some (k : Int)) = [] := by
  unfold cutV
  rw [HT.sIx_nat, HT.sIx_nat]
  have e : min k xs.length - min j xs.length = 0 := by omega
  rw [e, List.take_zero]
section
variable {P : Program} {w : World} {K : PySem.W.Frag} {mg : Str → Option Value} {base : Heap} {CM aN aR f1 f2 f3 : Addr} {d1 d2 d3 : FuncData}
abbrev sRowEnd : Stmt := top 86
theorem scRowEnd : FnScope ["calls", "place", "at"] ["calls", "place", "at"] (defScope sRowEnd) := ⟨rfl, rfl, rfl, by decide +kernel, rfl, by decide +kernel, by decide +kernel⟩
def spRowEnd (K : PySem.W.Frag) : Sp := fun vs H Q _ => ∃ (c : Addr) (nums : List Int) (j k : Nat) (q z : Int), vs = [.ref c, .int (j : Nat), .int (k : Nat)] ∧ SqL K H c (nums.map V.int) ∧ rowsOf[j]? = some q ∧
  (q = 0 → z = (k : Int)) ∧ (q ≠ 0 → ∃ y, nums[k]? = some y ∧ z = (k : Int) + 1 + y) ∧ Q (.int z) H
theorem ok_row_end (GROWS : GTup K mg "ROWS" aR rowsOf) {f : Addr} {fd : FuncData} (F : Fun K "row_end" "row_end" sRowEnd f fd) : FnOk P w K mg base CX0 1 f fd ["calls", "place", "at"] (spRowEnd K) := by
  refine F.ok scRowEnd (fun vs H Q E h => ?_) (fun cdv A outer s H vs Q E hr h => ⟨_, pss_cons (ps_if (pt_cmp (pc_eqI (pe_ix ix_tup (pe_glob (v := .ref aR) rfl GROWS.1 rfl) (pv 1) (fun _ _ => rfl)) pe_int)) (pss_one (ps_ret (pv 2))) pss_nil) (pss_one (ps_ret (pe_op op_add (pe_op op_add (pv 2) pe_int) (pe_ix ix_list (pv 0) (pv 2) (fun _ _ => rfl))))), ?_⟩)
  · obtain ⟨c, nums, j, k, q, z, rfl, _⟩ := h
    rfl
  · obtain ⟨c, nums, j, m, q, z, rfl, hc, hq, z0, z1, k⟩ := h
    refine ⟨_, rfl, _, _, _, _, rfl, rfl, GROWS.2 H, atI_nat (get_map hq), _, _, rfl, rfl, _, rfl, ?_⟩
    by_cases cq : q = 0
    · rw [z0 cq] at k
      exact tru (decide_eq_true cq) ⟨_, rfl, k⟩
    · obtain ⟨y, hy, rfl⟩ := z1 cq
      exact fls (decide_eq_false cq) ⟨_, rfl, _, _, rfl, rfl, _, rfl, _, rfl, _, _, _, _, rfl, rfl, hc, atI_nat (get_map hy), _, _, rfl, rfl, k⟩
abbrev sAnswers : Stmt := top 87
theorem scAnswers : FnScope ["calls", "machine", "out", "at", "place", "behind", "end", "answer"] ["calls"] (defScope sAnswers) := ⟨rfl, rfl, rfl, by decide +kernel, rfl, by decide +kernel, by decide +kernel⟩
def spAnswers (K : PySem.W.Frag) : Sp := fun vs H Q _ => ∃ (c : Addr) (nums : List Int), vs = [.ref c] ∧ SqL K H c (nums.map V.int) ∧ PyVaacle.answers_asked nums = true ∧
  ∀ (H' : Hp) (r : Addr), IsI H' r (PyVaacle.answers nums) → Q (.ref r) H'
theorem asked_calls {nums : List Int} (h : PyVaacle.answers_asked nums = true) : ∃ cs, PyFlat.calls PyVaacle.shape nums.length nums = some cs ∧ (PyVaacle.answers nums).length ≤ 10000000 := by
  unfold PyVaacle.answers_asked at h
  cases hc : PyFlat.calls PyVaacle.shape nums.length nums with
  | none =>
    rw [hc] at h
    cases h
  | some cs =>
    rw [hc] at h
    simp only [Bool.and_eq_true] at h
    exact ⟨cs, rfl, of_decide_eq_true h.2⟩
theorem ok_answers (G : NamesOf mg) (TMachine : MchOf K mg CM) (MMachine : Mk K CM f1) (DMachineInit : DefM P w K mg base CX0 1 CM "__init__" ["self"] (spMachineInit CM) f1 d1)
    (GNUMBERS : GTup K mg "NUMBERS" aN numbersOf) (DRowEnd : Def P w K mg base CX0 1 "row_end" ["calls", "place", "at"] (spRowEnd K) f2 d2)
    (DMachineAnswer : DefM P w K mg base CX0 15 CM "answer" ["self", "place", "numbers", "row"] (spMachineAnswer CM) f3 d3)
    {f : Addr} {fd : FuncData} (F : Fun K "answers" "answers" sAnswers f fd) : FnOk P w K mg base CX0 16 f fd ["calls"] (spAnswers K) := by
  refine F.ok scAnswers (fun vs H Q E h => ?_) (fun cdv A outer s H vs Q E hr h => ⟨_, pss_cons (ps_set (i := 1) scAnswers.nd rfl (.inl rfl) (pe_make0 MMachine DMachineInit.ok (hr.mono (by decide)) rfl TMachine.g DMachineInit.b .nil pass0)) (pss_cons (ps_set (i := 2) scAnswers.nd rfl (.inl rfl) (pe_lst pa_nil)) (pss_cons (ps_set (i := 3) scAnswers.nd rfl (.inl rfl) pe_int) (pss_cons (ps_while PassesOwn.never (pt_cmp (pc_lt (pv 3) (pe_callB call_len_seq (by rfl) G.len PySem.boot_len (pa_cons (pv 0) pa_nil)))) (pss_cons (ps_set (i := 4) scAnswers.nd rfl (.inl rfl) (pe_ix ix_list (pv 0) (pv 3) (fun _ _ => rfl))) (pss_cons (ps_set (i := 5) scAnswers.nd rfl (.inl rfl) (pe_op op_add (pe_op op_add (pv 3) pe_int) (pe_ix ix_tup (pe_glob (v := .ref aN) rfl GNUMBERS.1 rfl) (pv 4) (fun _ _ => rfl)))) (pss_cons (ps_set (i := 6) scAnswers.nd rfl (.inl rfl) (pe_call DRowEnd.ok (hr.mono (by decide)) rfl DRowEnd.m DRowEnd.kp DRowEnd.b .nil pass0 (pa_cons (pv 0) (pa_cons (pv 4) (pa_cons (pv 5) pa_nil))))) (pss_cons (ps_set (i := 7) scAnswers.nd rfl (.inl rfl) (pe_meth (pv 1) TMachine.cl DMachineAnswer.meth DMachineAnswer.ok (hr.mono (by decide)) DMachineAnswer.b .nil pass0 (pa_cons (pv 4) (pa_cons (pe_slice sl_list (pv 0) (po_some (pe_op op_add (pv 3) pe_int)) (po_some (pv 5))) (pa_cons (pe_slice sl_list (pv 0) (po_some (pe_op op_add (pv 5) pe_int)) (po_some (pv 6))) pa_nil))))) (pss_cons (ps_expr (pe_bm PySem.F.plainAttrs_list PySem.F.slot_list_append PySem.F.type_list_append mt_append (pv 2) (pa_cons (pe_callB call_len_seq (by rfl) G.len PySem.boot_len (pa_cons (pv 7) pa_nil)) pa_nil))) (pss_cons (ps_expr (pe_bm PySem.F.plainAttrs_list PySem.F.slot_list_extend PySem.F.type_list_extend mt_extend (pv 2) (pa_cons (pv 7) pa_nil))) (pss_one (ps_set (i := 3) scAnswers.nd rfl (.inl rfl) (pv 6)))))))))) (pss_one (ps_ret (pv 2)))))), ?_⟩)
  · obtain ⟨c, nums, rfl, _⟩ := h
    rfl
  · obtain ⟨c, nums, rfl, hc, hask, k⟩ := h
    obtain ⟨cs0, hcs, hlen⟩ := asked_calls hask
    have ans0 := answers_of hcs
    refine fun x dx nx nd ne => ⟨x, dx, rfl, upd_same, fun H1 J1 pl bt npl M1 => ⟨rfl, ?_⟩⟩
    have s1 : Same H H1 := Same.made nx nd fun b o h hb => bt b o hb h
    have s0 : Same H (upd (upd H dx (.own x)) x (.ins CM dx [])) := ((Same.refl H).new nd).new ((upd_ne ne.symm).trans nx)
    have npl0 : H pl = none := s0.free npl
    obtain ⟨_, _, _, _, pl1, J1s, _⟩ := id M1
    refine ⟨by show 0 ≤ sizeLine; decide, fun o no => while_by (fun σ H' => ∃ (m f : Nat) (J : Hp) (s : State) (outl : List Int) (cs : List (List (List Int))) (v4 v5 v6 v7 : Option V),
        σ = [some (.ref c), some (.ref x), some (.ref o), some (.int (m : Nat)), v4, v5, v6, v7] ∧ Same H H' ∧ MachAt CM pl J H' x s ∧ J o = none ∧ IsI H' o outl ∧ m ≤ nums.length ∧ PyFlat.calls PyVaacle.shape f (nums.drop m) = some cs ∧ outl ++ restM s cs = PyVaacle.answers nums)
      (fun σ _ => leftAt nums.length σ[3]?)
      ⟨0, nums.length, J1, Vaacle.start, [], cs0, none, none, none, none, rfl, s1.new no, M1.same ((Same.refl H1).new no), ?_, upd_same, Nat.zero_le _, hcs, ans0.symm⟩ ?_ ?_⟩
    · cases hj : J1 o with
      | none => rfl
      | some u =>
        rw [J1s o u hj] at no
        cases no
    · have opl : pl ≠ o := ne_of_none pl1 no
      have no0 : H o = none := s1.free no
      rintro σ H' ⟨m, f, J, s, outl, cs, v4, v5, v6, v7, rfl, e, M, jo, hO, hm, hcall, heq⟩
      have hcK : SqL K H' c (nums.map V.int) := e.seq hc
      refine ⟨_, rfl, _, rfl, c, _, rfl, .inl hcK, _, _, rfl, rfl, _, rfl, ?_⟩
      rw [List.length_map]
      by_cases cl : m < nums.length
      · refine tru (decide_eq_true (by omega)) ?_
        obtain ⟨pc, r, hd⟩ : ∃ pc r, nums.drop m = pc :: r := ⟨nums[m], nums.drop (m + 1), List.drop_eq_getElem_cons cl⟩
        have hpc : nums[m]? = some pc := by
          rw [List.getElem?_eq_getElem cl]
          rw [List.drop_eq_getElem_cons cl] at hd
          injection hd with h1 h2
          rw [h1]
        have hr : r = nums.drop (m + 1) := by
          rw [List.drop_eq_getElem_cons cl] at hd
          injection hd with h1 h2
          exact h2.symm
        have rlen : r.length = nums.length - (m + 1) := by rw [hr, List.length_drop]
        rw [hd] at hcall
        obtain ⟨f', ch, t, cs', hch, hcs', rfl⟩ := calls_cons hcall
        obtain ⟨j, n, q, R, call, hh⟩ := call_is hch
        obtain rfl := hh.hp
        have nlen := hh.len
        rw [rest_cons s ch cs' hh.of] at heq
        -- where the call ends
        obtain ⟨en, hen0, hen1, hent, henle, henm, hRE⟩ : ∃ en : Nat, (q = 0 → en = m + 1 + n) ∧ (q ≠ 0 → ∃ y : Int, nums[m + 1 + n]? = some y ∧ (en : Int) = ((m + 1 + n : Nat) : Int) + 1 + y) ∧ t = nums.drop en ∧ en ≤ nums.length ∧ m < en ∧
            cutV (nums.map V.int) (some ((m + 1 + n + 1 : Nat) : Int)) (some (en : Int)) = R.map V.int := by
          by_cases q0 : q = 0
          · obtain ⟨hR, ht⟩ := hh.no q0
            refine ⟨m + 1 + n, fun _ => rfl, fun h => absurd q0 h, ?_, by omega, by omega, ?_⟩
            · rw [ht, hr, List.drop_drop]
            · rw [cut_none (by omega), hR]
              rfl
          · obtain ⟨z, r2, hd2, hz, hR, ht⟩ := hh.yes q0
            rw [hr, List.drop_drop] at hd2
            have hlt : m + 1 + n < nums.length := by
              have := congrArg List.length hd2
              rw [List.length_drop] at this
              have h2 : (((z : Int) :: r2).length) = r2.length + 1 := rfl
              omega
            have hy : nums[m + 1 + n]? = some (z : Int) := by
              rw [List.drop_eq_getElem_cons hlt] at hd2
              injection hd2 with h1 h2
              rw [List.getElem?_eq_getElem hlt, h1]
            have hr2 : r2 = nums.drop (m + 1 + n + 1) := by
              rw [List.drop_eq_getElem_cons hlt] at hd2
              injection hd2 with h1 h2
              exact h2.symm
            have r2len : r2.length = nums.length - (m + 1 + n + 1) := by rw [hr2, List.length_drop]
            refine ⟨m + 1 + n + 1 + z, fun h => absurd h q0, fun _ => ⟨(z : Int), hy, by omega⟩, ?_, by omega, by omega, ?_⟩
            · rw [ht, hr2, List.drop_drop]
            · rw [cut_mid (by omega) (by rw [List.length_map]; omega), show m + 1 + n + 1 + z - (m + 1 + n + 1) = z by omega, ← List.map_drop, ← List.map_take, ← hr2, hR]
        have hnums : cutV (nums.map V.int) (some ((m + 1 : Nat) : Int)) (some ((m + 1 + n : Nat) : Int)) = (r.take n).map V.int := by
          rw [cut_mid (by omega) (by rw [List.length_map]; omega), show m + 1 + n - (m + 1) = n by omega, ← List.map_drop, ← List.map_take, ← hr]
        have hb : ((m : Nat) : Int) + 1 + (n : Int) = ((m + 1 + n : Nat) : Int) := by omega
        refine ⟨_, rfl, _, rfl, _, _, _, _, rfl, rfl, hcK, atI_nat (get_map hpc), ?_⟩
        refine ⟨_, rfl, _, _, rfl, rfl, _, rfl, _, _, _, _, rfl, rfl, GNUMBERS.2 _, atI_nat (get_map hh.hn), _, _, rfl, rfl, ?_⟩
        dsimp only
        rw [hb]
        refine ⟨_, rfl, _, rfl, _, rfl, c, nums, j, m + 1 + n, (q : Int), (en : Int), rfl, hcK, hh.hr, fun h => ?_, fun h => hen1 (by omega), ?_⟩
        · rw [hen0 (by omega)]
        have hb1 : ((m : Nat) : Int) + 1 = ((m + 1 : Nat) : Int) := by omega
        have hb2 : ((m + 1 + n : Nat) : Int) + 1 = ((m + 1 + n + 1 : Nat) : Int) := by omega
        obtain ⟨dxm, _, _, hx, hplM, _⟩ := id M
        refine ⟨_, rfl, x, dxm, _, rfl, hx, mF_answer pl, _, rfl, _, rfl, _, rfl, _, _, rfl, rfl, _, rfl, _, rfl, _, rfl, c, _, rfl, hcK, fun p1 hp1 => ?_⟩
        rw [hb1, hnums]
        have eA : Same H' (upd H' p1 (.lst ((r.take n).map V.int))) := (Same.refl H').new hp1
        refine ⟨_, rfl, _, rfl, _, _, rfl, rfl, _, rfl, _, rfl, _, rfl, c, _, rfl, eA.seq hcK, fun p2 hp2 => ?_⟩
        rw [hb2, hRE]
        have eB : Same H' (upd (upd H' p1 (.lst ((r.take n).map V.int))) p2 (.lst (R.map V.int))) := eA.new hp2
        have hN : IsI (upd (upd H' p1 (.lst ((r.take n).map V.int))) p2 (.lst (R.map V.int))) p1 (r.take n) := (upd_ne (ne_of_none (show (upd H' p1 (.lst ((r.take n).map V.int))) p1 = some _ from upd_same) hp2)).trans upd_same
        refine ⟨x, pl, p1, p2, J, s, (j : Int), r.take n, R, call, rfl, M.same eB, hN, upd_same, hh.is, fun H3 J3 rr b3 M3 keep nr hr3 => ?_⟩
        have hO3 : IsI H3 o outl := b3 _ _ opl.symm (eB _ _ hO)
        have jo3 : J3 o = none := keep o _ (eB _ _ hO) jo
        have ro : rr ≠ o := (ne_of_none (eB _ _ hO) nr).symm
        have tot : outl.length + ((Vaacle.step s call).2.length + 1) ≤ 10000000 := by
          have := congrArg List.length heq
          rw [List.length_append, List.length_append, List.length_cons] at this
          omega
        have big : ∀ z : Nat, z ≤ 10000000 → z ≤ sizeLine := fun z h => Nat.le_trans h (by decide)
        refine ⟨_, rfl, .inl ⟨rfl, _, SqL.of hO3⟩, _, rfl, rr, _, rfl, .inl (SqL.of hr3), o, _, _, rfl, rfl, hO3, by rw [List.length_map]; exact Nat.lt_of_lt_of_le (Nat.lt_succ_self _) (big _ (by omega)), ?_⟩
        rw [List.length_map]
        refine ⟨_, rfl, .inl ⟨rfl, _, SqL.of upd_same⟩, _, rfl, o, rr, _, _, rfl, rfl, upd_same, (upd_ne ro).trans hr3, by rw [List.length_append, List.length_map, List.length_map]; exact big _ (by show outl.length + 1 + _ ≤ _; omega), ?_⟩
        have mo : x ≠ o := ne_of hx hO (by intro z; cases z)
        have e3 : Same H H3 := fun b u hb => b3 b u (fun z => by
          rw [z, npl0] at hb
          cases hb) (eB _ _ (e _ _ hb))
        refine ⟨_, rfl, ⟨en, f', J3, (Vaacle.step s call).1, outl ++ (((Vaacle.step s call).2.length : Nat) : Int) :: (Vaacle.step s call).2, cs', _, _, _, _, rfl, (e3.put no0).put no0, (M3.put jo3 mo opl).put jo3 mo opl, jo3, ?_, henle, by rw [← hent]; exact hcs', by rw [← heq, List.append_assoc]⟩, ?_⟩
        · unfold IsI
          rw [upd_same, List.map_append, List.append_assoc]
          rfl
        · show nums.length - ((en : Nat) : Int).toNat < nums.length - ((m : Nat) : Int).toNat
          rw [Int.toNat_natCast, Int.toNat_natCast]
          omega
      · refine fls (decide_eq_false (by omega)) ?_
        have hd : nums.drop m = [] := List.drop_eq_nil_of_le (by omega)
        rw [hd] at hcall
        obtain rfl := calls_nil hcall
        refine ⟨_, rfl, k H' o ?_⟩
        rw [← heq]
        show IsI H' o (outl ++ [])
        rw [List.append_nil]
        exact hO
    · rintro σ H' Q1 Q2 hQ ⟨u1, e1, u2, e2, u3, u4, e3, h4, u5, u6, e5, e6, u7, e7, q⟩
      exact ⟨u1, e1, u2, e2, u3, u4, e3, h4, u5, u6, e5, e6, u7, e7, hQ _ _ q⟩
end
end Lp
/-! ## What the top has written -/
namespace Lp
open PySem PySem.Spec PyProof.Rows L2
open VaaclBase (readGiven readMove readTest readBranch readLoop readPiece readProgram)
def Has (K : PySem.W.Frag) (x qual : Str) (st : Stmt) : Prop := ∃ f fd, PySem.W.nsIn K mainGlobals x = some (some (.ref f)) ∧ Fun K x qual st f fd
theorem has_mk {K : PySem.W.Frag} {x qual : Str} {st : Stmt} {f : Addr} {oc : Value} {od an : Option Addr} {osl : Array (Option Value)} {kV doc pm cdv ct : Value} (a : PySem.W.nsIn K mainGlobals x = some (some (.ref f)))
    (l : K.lookup f = some ⟨oc, od, .func (PySem.W.fnOf x qual (defArgs st) (defBody st) (defScope st) .none kV doc pm an cdv ct), osl⟩) (c : PySem.W.codeIn K cdv qual = true) (k : PySem.W.keepIn K (.ref f) = true) : Has K x qual st := ⟨f, _, a, fun_mk l c k⟩
def HasM (K : PySem.W.Frag) (C : Addr) (x qual : Str) (st : Stmt) : Prop := ∃ f fd, Meth K C x f ∧ Fun K x qual st f fd
theorem hasM_mk {K : PySem.W.Frag} {C : Addr} {x qual : Str} {st : Stmt} {f : Addr} {oc : Value} {od an : Option Addr} {osl : Array (Option Value)} {kV doc pm cdv ct : Value} (a : PySem.W.findIn K (.ref C) x = some (some (.ref f))) (i : PySem.W.isFn K (.ref f) = true)
    (l : K.lookup f = some ⟨oc, od, .func (PySem.W.fnOf x qual (defArgs st) (defBody st) (defScope st) .none kV doc pm an cdv ct), osl⟩) (c : PySem.W.codeIn K cdv qual = true) (k : PySem.W.keepIn K (.ref f) = true) : HasM K C x qual st := ⟨f, _, ⟨a, i, k⟩, fun_mk l c k⟩
structure ClsAt (K : PySem.W.Frag) (x : Str) (C : Addr) : Prop where
  a : PySem.W.nsIn K mainGlobals x = some (some (.ref C))
  c : Cls K C
  m : PySem.W.makesIn K C = true
  k : PySem.W.keepIn K (.ref C) = true
theorem clsAt_mk {K : PySem.W.Frag} {x : Str} {C : Addr} (a : PySem.W.nsIn K mainGlobals x = some (some (.ref C))) (pg : PySem.W.plainGet K C Str.empty = true) (hd : PySem.W.hasDictIn K C = true) (po : PySem.W.plainOver K C = true)
    (sa : PySem.W.findIn K (.ref C) "__setattr__" = some (some (.builtin "object.__setattr__"))) (mk : PySem.W.makesIn K C = true) (kc : PySem.W.keepIn K (.ref C) = true) : ClsAt K x C := ⟨a, ⟨pg, hd, po, sa⟩, mk, kc⟩
def HasReader (K : PySem.W.Frag) : Prop := ∃ C, ClsAt K "Reader" C ∧ NoAttr K C "numbers" ∧ NoAttr K C "at" ∧ HasM K C "__init__" "Reader.__init__" sReaderInit ∧ HasM K C "take" "Reader.take" sReaderTake ∧ HasM K C "is_done" "Reader.is_done" sReaderIsDone
theorem hasReader_mk {K : PySem.W.Frag} {C : Addr} (c : ClsAt K "Reader" C) (n1 : PySem.W.findIn K (.ref C) "numbers" = some none) (n2 : PySem.W.findIn K (.ref C) "at" = some none) (m1 : HasM K C "__init__" "Reader.__init__" sReaderInit) (m2 : HasM K C "take" "Reader.take" sReaderTake)
    (m3 : HasM K C "is_done" "Reader.is_done" sReaderIsDone) : HasReader K := ⟨C, c, n1, n2, m1, m2, m3⟩
def HasMachine (K : PySem.W.Frag) : Prop := ∃ C, ClsAt K "Machine" C ∧ NoAttr K C "programs" ∧ HasM K C "__init__" "Machine.__init__" sMachineInit ∧ HasM K C "replace_program" "Machine.replace_program" sMachineReplaceProgram ∧ HasM K C "answer" "Machine.answer" sMachineAnswer
theorem hasMachine_mk {K : PySem.W.Frag} {C : Addr} (c : ClsAt K "Machine" C) (n1 : PySem.W.findIn K (.ref C) "programs" = some none) (m1 : HasM K C "__init__" "Machine.__init__" sMachineInit) (m2 : HasM K C "replace_program" "Machine.replace_program" sMachineReplaceProgram)
    (m3 : HasM K C "answer" "Machine.answer" sMachineAnswer) : HasMachine K := ⟨C, c, n1, m1, m2, m3⟩
def HasNot (K : PySem.W.Frag) : Prop := ∃ C, PySem.W.nsIn K mainGlobals "NotProgram" = some (some (.ref C)) ∧ PySem.W.excIn K C [.type "Exception", .type "BaseException", .type "object"] "Exception.__new__" = true ∧ PySem.W.keepIn K (.ref C) = true ∧
  PySem.W.subIn K (.ref C) (.type "BaseException") = some true ∧ PySem.W.typeIn K (.ref C) = some (.type "type") ∧ PySem.W.exmOne K (.ref C) (.ref C) = some true
/-- an error of the class at S is what «except S» names -/
theorem exm_self {K : PySem.W.Frag} {S : Addr} (h1 : PySem.W.subIn K (.ref S) (.type "BaseException") = some true) (h2 : PySem.W.isClsIn K S = true) (h3 : PySem.W.typeIn K (.ref S) = some (.type "type")) (h4 : PySem.W.subIn K (.ref S) (.ref S) = some true) :
    PySem.W.exmOne K (.ref S) (.ref S) = some true := by
  have e1 : (PySem.W.subIn K (.ref S) (.type "BaseException") == some true) = true := by rw [h1] <;> rfl
  have e2 : ((PySem.W.clsIn K S).isSome && PySem.W.typeIn K (.ref S) == some (.type "type")) = true := by
    have h2' : (PySem.W.clsIn K S).isSome = true := h2
    rw [h2', h3] <;> rfl
  show (if (PySem.W.subIn K (.ref S) (.type "BaseException") == some true) = true then (if ((PySem.W.clsIn K S).isSome && PySem.W.typeIn K (.ref S) == some (.type "type")) = true then PySem.W.subIn K (.ref S) (.ref S) else none) else none) = some true
  rw [if_pos e1, if_pos e2]
  exact h4
theorem hasNot_mk {K : PySem.W.Frag} {C : Addr} (a : PySem.W.nsIn K mainGlobals "NotProgram" = some (some (.ref C))) (x : PySem.W.excIn K C [.type "Exception", .type "BaseException", .type "object"] "Exception.__new__" = true) (k : PySem.W.keepIn K (.ref C) = true)
    (b : PySem.W.subIn K (.ref C) (.type "BaseException") = some true) (t : PySem.W.typeIn K (.ref C) = some (.type "type")) (i : PySem.W.isClsIn K C = true) (s : PySem.W.subIn K (.ref C) (.ref C) = some true) : HasNot K := ⟨C, a, x, k, b, t, exm_self b i t s⟩
def HasInt (K : PySem.W.Frag) (x : Str) (n : Int) : Prop := ∃ t, PySem.W.nsIn K mainGlobals x = some (some (.int n t))
theorem hasInt_mk {K : PySem.W.Frag} {x : Str} {n : Int} {t : Nat} (a : PySem.W.nsIn K mainGlobals x = some (some (.int n t))) : HasInt K x n := ⟨t, a⟩
theorem HasInt.mg {K : PySem.W.Frag} {h : Heap} {mg : Str → Option Value} {x : Str} {n : Int} (X : K.In h) (G : h.Ns mainGlobals mg) (a : HasInt K x n) : ∃ t, mg x = some (.int n t) := by
  obtain ⟨t, a⟩ := a
  exact ⟨t, PySem.W.mg_of X G a⟩
def HasTup (K : PySem.W.Frag) (x : Str) (ns : List Int) : Prop := ∃ a, PySem.W.nsIn K mainGlobals x = some (some (.ref a)) ∧ ∀ H : Hp, SqT K H a (ns.map V.int)
theorem hasTup_mk {K : PySem.W.Frag} {x : Str} {a : Addr} {n0 n1 n2 n3 n4 n5 n6 n7 n8 n9 n10 : Int} {t0 t1 t2 t3 t4 t5 t6 t7 t8 t9 t10 : Nat} {od : Option Addr} {n : Nat} {sl : Array (Option Value)} (h : PySem.W.nsIn K mainGlobals x = some (some (.ref a)))
    (l : K.lookup a = some ⟨.type "tuple", od, .seq #[.int n0 t0, .int n1 t1, .int n2 t2, .int n3 t3, .int n4 t4, .int n5 t5, .int n6 t6, .int n7 t7, .int n8 t8, .int n9 t9, .int n10 t10] n, sl⟩) : HasTup K x [n0, n1, n2, n3, n4, n5, n6, n7, n8, n9, n10] :=
  ⟨a, h, fun H => .inr ⟨_, _, _, l, rfl, rfl, by show 11 ≤ sizeLine; decide, .cons ⟨_, rfl⟩ (.cons ⟨_, rfl⟩ (.cons ⟨_, rfl⟩ (.cons ⟨_, rfl⟩ (.cons ⟨_, rfl⟩ (.cons ⟨_, rfl⟩ (.cons ⟨_, rfl⟩ (.cons ⟨_, rfl⟩ (.cons ⟨_, rfl⟩ (.cons ⟨_, rfl⟩ (.cons ⟨_, rfl⟩ .nil))))))))))⟩⟩

theorem all_mk {P : Program} {w : World} {K : PySem.W.Frag} {h : Heap} {mg : Str → Option Value} {fa : Addr} (X : K.In h) (Gs : h.Ns mainGlobals mg) (hfa : mg "answers" = some (.ref fa))
    (n_len : PySem.W.nsIn K mainGlobals "len" = some none)
    (n_range : PySem.W.nsIn K mainGlobals "range" = some none)
    (n_enumerate : PySem.W.nsIn K mainGlobals "enumerate" = some none)
    (n_sorted : PySem.W.nsIn K mainGlobals "sorted" = some none)
    (n_set : PySem.W.nsIn K mainGlobals "set" = some none)
    (c_FAR : HasInt K "FAR" 1000000000000)
    (c_AHEAD : HasInt K "AHEAD" 6)
    (c_SETTLED : HasInt K "SETTLED" 4)
    (c_MOST_LEAPS : HasInt K "MOST_LEAPS" 12)
    (c_MOST_ROUNDS : HasInt K "MOST_ROUNDS" 2000)
    (c_NEAR : HasInt K "NEAR" 1000000)
    (c_MOST_INPUTS : HasInt K "MOST_INPUTS" 16)
    (g_NUMBERS : HasTup K "NUMBERS" numbersOf)
    (g_ROWS : HasTup K "ROWS" rowsOf)
    (k_Reader : HasReader K)
    (k_Machine : HasMachine K)
    (k_Not : HasNot K)
    (h_moved : Has K "moved" "moved" sMoved)
    (h_is_beyond : Has K "is_beyond" "is_beyond" sIsBeyond)
    (h_holds : Has K "holds" "holds" sHolds)
    (h_all_hold : Has K "all_hold" "all_hold" sAllHold)
    (h_chosen : Has K "chosen" "chosen" sChosen)
    (h_branch_moved : Has K "branch_moved" "branch_moved" sBranchMoved)
    (h_flip : Has K "flip" "flip" sFlip)
    (h_flip_of : Has K "flip_of" "flip_of" sFlipOf)
    (h_flips_of_choice : Has K "flips_of_choice" "flips_of_choice" sFlipsOfChoice)
    (h_flips_of_far : Has K "flips_of_far" "flips_of_far" sFlipsOfFar)
    (h_step_moved : Has K "step_moved" "step_moved" sStepMoved)
    (h_flips : Has K "flips" "flips" sFlips)
    (h_next_branches : Has K "next_branches" "next_branches" sNextBranches)
    (h_begins_twice : Has K "begins_twice" "begins_twice" sBeginsTwice)
    (h_pattern_at : Has K "pattern_at" "pattern_at" sPatternAt)
    (h_follow : Has K "follow" "follow" sFollow)
    (h_sources_of : Has K "sources_of" "sources_of" sSourcesOf)
    (h_circle_of : Has K "circle_of" "circle_of" sCircleOf)
    (h_common_multiple : Has K "common_multiple" "common_multiple" sCommonMultiple)
    (h_asks_remainder : Has K "asks_remainder" "asks_remainder" sAsksRemainder)
    (h_period : Has K "period" "period" sPeriod)
    (h_further : Has K "further" "further" sFurther)
    (h_beginnings : Has K "beginnings" "beginnings" sBeginnings)
    (h_first_stop : Has K "first_stop" "first_stop" sFirstStop)
    (h_stop_time : Has K "stop_time" "stop_time" sStopTime)
    (h_often : Has K "often" "often" sOften)
    (h_one_leap : Has K "one_leap" "one_leap" sOneLeap)
    (h_leap_loop : Has K "leap_loop" "leap_loop" sLeapLoop)
    (h_leap_piece : Has K "leap_piece" "leap_piece" sLeapPiece)
    (h_leap_program : Has K "leap_program" "leap_program" sLeapProgram)
    (h_run_loop : Has K "run_loop" "run_loop" sRunLoop)
    (h_run_piece : Has K "run_piece" "run_piece" sRunPiece)
    (h_run_program : Has K "run_program" "run_program" sRunProgram)
    (h_longer : Has K "longer" "longer" sLonger)
    (h_box : Has K "box" "box" sBox)
    (h_same : Has K "same" "same" sSame)
    (h_first_of : Has K "first_of" "first_of" sFirstOf)
    (h_apart : Has K "apart" "apart" sApart)
    (h_ends : Has K "ends" "ends" sEnds)
    (h_longest : Has K "longest" "longest" sLongest)
    (h_never : Has K "never" "never" sNever)
    (h_counts : Has K "counts" "counts" sCounts)
    (h_read_given : Has K "read_given" "read_given" sReadGiven)
    (h_read_move : Has K "read_move" "read_move" sReadMove)
    (h_read_test : Has K "read_test" "read_test" sReadTest)
    (h_read_branch : Has K "read_branch" "read_branch" sReadBranch)
    (h_read_piece : Has K "read_piece" "read_piece" sReadPiece)
    (h_read_program : Has K "read_program" "read_program" sReadProgram)
    (h_which_refused : Has K "which_refused" "which_refused" sWhichRefused)
    (h_piece_refused : Has K "piece_refused" "piece_refused" sPieceRefused)
    (h_many_refused : Has K "many_refused" "many_refused" sManyRefused)
    (h_values_refused : Has K "values_refused" "values_refused" sValuesRefused)
    (h_counters_refused : Has K "counters_refused" "counters_refused" sCountersRefused)
    (h_box_size : Has K "box_size" "box_size" sBoxSize)
    (h_box_refused : Has K "box_refused" "box_refused" sBoxRefused)
    (h_told : Has K "told" "told" sTold)
    (h_leaps_told : Has K "leaps_told" "leaps_told" sLeapsTold)
    (h_run_answer : Has K "run_answer" "run_answer" sRunAnswer)
    (h_piece_answer : Has K "piece_answer" "piece_answer" sPieceAnswer)
    (h_same_answer : Has K "same_answer" "same_answer" sSameAnswer)
    (h_apart_answer : Has K "apart_answer" "apart_answer" sApartAnswer)
    (h_ends_answer : Has K "ends_answer" "ends_answer" sEndsAnswer)
    (h_box_answer : Has K "box_answer" "box_answer" sBoxAnswer)
    (h_row_end : Has K "row_end" "row_end" sRowEnd)
    (h_answers : Has K "answers" "answers" sAnswers)
    : ∃ fd : FuncData, (∀ (s : Shared) (us : List Value), us.length = (["calls"] : List Str).length → BindsTo s fd ⟨us, []⟩ ((["calls"] : List Str).zip us)) ∧ ∀ base : Heap, K.In base → base.Ns mainGlobals mg → FnOk P w K mg base CX0 16 fa fd ["calls"] (spAnswers K) := by
  have G : NamesOf mg := ⟨PySem.W.mg_none_of X Gs n_len, PySem.W.mg_none_of X Gs n_range, PySem.W.mg_none_of X Gs n_enumerate, PySem.W.mg_none_of X Gs n_sorted, PySem.W.mg_none_of X Gs n_set, c_FAR.mg X Gs, c_AHEAD.mg X Gs, c_SETTLED.mg X Gs, c_MOST_LEAPS.mg X Gs, c_MOST_ROUNDS.mg X Gs, c_NEAR.mg X Gs, c_MOST_INPUTS.mg X Gs⟩
  obtain ⟨aN, hN, sN⟩ := g_NUMBERS
  have GNUMBERS : GTup K mg "NUMBERS" aN numbersOf := ⟨PySem.W.mg_of X Gs hN, sN⟩
  obtain ⟨aR, hR, sR⟩ := g_ROWS
  have GROWS : GTup K mg "ROWS" aR rowsOf := ⟨PySem.W.mg_of X Gs hR, sR⟩
  obtain ⟨CN, nN, xN, kN, bN, tN, eN⟩ := k_Not
  have TN : NotOf K mg CN := ⟨PySem.W.mg_of X Gs nN, xN, kN, bN, tN, eN⟩
  obtain ⟨CR, clR, r1, r2, ⟨f_sReaderInit, d_sReaderInit, m_sReaderInit, F_sReaderInit⟩, ⟨f_sReaderTake, d_sReaderTake, m_sReaderTake, F_sReaderTake⟩, ⟨f_sReaderIsDone, d_sReaderIsDone, m_sReaderIsDone, F_sReaderIsDone⟩⟩ := k_Reader
  have TR : RdrOf K mg CR := ⟨clR.c, r1, r2, PySem.W.mg_of X Gs clR.a⟩
  have MR : Mk K CR f_sReaderInit := ⟨clR.m, m_sReaderInit.at_, m_sReaderInit.fn, clR.k⟩
  obtain ⟨CM, clM, m1, ⟨f_sMachineInit, d_sMachineInit, m_sMachineInit, F_sMachineInit⟩, ⟨f_sMachineReplaceProgram, d_sMachineReplaceProgram, m_sMachineReplaceProgram, F_sMachineReplaceProgram⟩, ⟨f_sMachineAnswer, d_sMachineAnswer, m_sMachineAnswer, F_sMachineAnswer⟩⟩ := k_Machine
  have TM : MchOf K mg CM := ⟨clM.c, m1, PySem.W.mg_of X Gs clM.a⟩
  have MM : Mk K CM f_sMachineInit := ⟨clM.m, m_sMachineInit.at_, m_sMachineInit.fn, clM.k⟩
  obtain ⟨f_sMoved, d_sMoved, a_sMoved, F_sMoved⟩ := h_moved
  obtain ⟨f_sIsBeyond, d_sIsBeyond, a_sIsBeyond, F_sIsBeyond⟩ := h_is_beyond
  obtain ⟨f_sHolds, d_sHolds, a_sHolds, F_sHolds⟩ := h_holds
  obtain ⟨f_sAllHold, d_sAllHold, a_sAllHold, F_sAllHold⟩ := h_all_hold
  obtain ⟨f_sChosen, d_sChosen, a_sChosen, F_sChosen⟩ := h_chosen
  obtain ⟨f_sBranchMoved, d_sBranchMoved, a_sBranchMoved, F_sBranchMoved⟩ := h_branch_moved
  obtain ⟨f_sFlip, d_sFlip, a_sFlip, F_sFlip⟩ := h_flip
  obtain ⟨f_sFlipOf, d_sFlipOf, a_sFlipOf, F_sFlipOf⟩ := h_flip_of
  obtain ⟨f_sFlipsOfChoice, d_sFlipsOfChoice, a_sFlipsOfChoice, F_sFlipsOfChoice⟩ := h_flips_of_choice
  obtain ⟨f_sFlipsOfFar, d_sFlipsOfFar, a_sFlipsOfFar, F_sFlipsOfFar⟩ := h_flips_of_far
  obtain ⟨f_sStepMoved, d_sStepMoved, a_sStepMoved, F_sStepMoved⟩ := h_step_moved
  obtain ⟨f_sFlips, d_sFlips, a_sFlips, F_sFlips⟩ := h_flips
  obtain ⟨f_sNextBranches, d_sNextBranches, a_sNextBranches, F_sNextBranches⟩ := h_next_branches
  obtain ⟨f_sBeginsTwice, d_sBeginsTwice, a_sBeginsTwice, F_sBeginsTwice⟩ := h_begins_twice
  obtain ⟨f_sPatternAt, d_sPatternAt, a_sPatternAt, F_sPatternAt⟩ := h_pattern_at
  obtain ⟨f_sFollow, d_sFollow, a_sFollow, F_sFollow⟩ := h_follow
  obtain ⟨f_sSourcesOf, d_sSourcesOf, a_sSourcesOf, F_sSourcesOf⟩ := h_sources_of
  obtain ⟨f_sCircleOf, d_sCircleOf, a_sCircleOf, F_sCircleOf⟩ := h_circle_of
  obtain ⟨f_sCommonMultiple, d_sCommonMultiple, a_sCommonMultiple, F_sCommonMultiple⟩ := h_common_multiple
  obtain ⟨f_sAsksRemainder, d_sAsksRemainder, a_sAsksRemainder, F_sAsksRemainder⟩ := h_asks_remainder
  obtain ⟨f_sPeriod, d_sPeriod, a_sPeriod, F_sPeriod⟩ := h_period
  obtain ⟨f_sFurther, d_sFurther, a_sFurther, F_sFurther⟩ := h_further
  obtain ⟨f_sBeginnings, d_sBeginnings, a_sBeginnings, F_sBeginnings⟩ := h_beginnings
  obtain ⟨f_sFirstStop, d_sFirstStop, a_sFirstStop, F_sFirstStop⟩ := h_first_stop
  obtain ⟨f_sStopTime, d_sStopTime, a_sStopTime, F_sStopTime⟩ := h_stop_time
  obtain ⟨f_sOften, d_sOften, a_sOften, F_sOften⟩ := h_often
  obtain ⟨f_sOneLeap, d_sOneLeap, a_sOneLeap, F_sOneLeap⟩ := h_one_leap
  obtain ⟨f_sLeapLoop, d_sLeapLoop, a_sLeapLoop, F_sLeapLoop⟩ := h_leap_loop
  obtain ⟨f_sLeapPiece, d_sLeapPiece, a_sLeapPiece, F_sLeapPiece⟩ := h_leap_piece
  obtain ⟨f_sLeapProgram, d_sLeapProgram, a_sLeapProgram, F_sLeapProgram⟩ := h_leap_program
  obtain ⟨f_sRunLoop, d_sRunLoop, a_sRunLoop, F_sRunLoop⟩ := h_run_loop
  obtain ⟨f_sRunPiece, d_sRunPiece, a_sRunPiece, F_sRunPiece⟩ := h_run_piece
  obtain ⟨f_sRunProgram, d_sRunProgram, a_sRunProgram, F_sRunProgram⟩ := h_run_program
  obtain ⟨f_sLonger, d_sLonger, a_sLonger, F_sLonger⟩ := h_longer
  obtain ⟨f_sBox, d_sBox, a_sBox, F_sBox⟩ := h_box
  obtain ⟨f_sSame, d_sSame, a_sSame, F_sSame⟩ := h_same
  obtain ⟨f_sFirstOf, d_sFirstOf, a_sFirstOf, F_sFirstOf⟩ := h_first_of
  obtain ⟨f_sApart, d_sApart, a_sApart, F_sApart⟩ := h_apart
  obtain ⟨f_sEnds, d_sEnds, a_sEnds, F_sEnds⟩ := h_ends
  obtain ⟨f_sLongest, d_sLongest, a_sLongest, F_sLongest⟩ := h_longest
  obtain ⟨f_sNever, d_sNever, a_sNever, F_sNever⟩ := h_never
  obtain ⟨f_sCounts, d_sCounts, a_sCounts, F_sCounts⟩ := h_counts
  obtain ⟨f_sReadGiven, d_sReadGiven, a_sReadGiven, F_sReadGiven⟩ := h_read_given
  obtain ⟨f_sReadMove, d_sReadMove, a_sReadMove, F_sReadMove⟩ := h_read_move
  obtain ⟨f_sReadTest, d_sReadTest, a_sReadTest, F_sReadTest⟩ := h_read_test
  obtain ⟨f_sReadBranch, d_sReadBranch, a_sReadBranch, F_sReadBranch⟩ := h_read_branch
  obtain ⟨f_sReadPiece, d_sReadPiece, a_sReadPiece, F_sReadPiece⟩ := h_read_piece
  obtain ⟨f_sReadProgram, d_sReadProgram, a_sReadProgram, F_sReadProgram⟩ := h_read_program
  obtain ⟨f_sWhichRefused, d_sWhichRefused, a_sWhichRefused, F_sWhichRefused⟩ := h_which_refused
  obtain ⟨f_sPieceRefused, d_sPieceRefused, a_sPieceRefused, F_sPieceRefused⟩ := h_piece_refused
  obtain ⟨f_sManyRefused, d_sManyRefused, a_sManyRefused, F_sManyRefused⟩ := h_many_refused
  obtain ⟨f_sValuesRefused, d_sValuesRefused, a_sValuesRefused, F_sValuesRefused⟩ := h_values_refused
  obtain ⟨f_sCountersRefused, d_sCountersRefused, a_sCountersRefused, F_sCountersRefused⟩ := h_counters_refused
  obtain ⟨f_sBoxSize, d_sBoxSize, a_sBoxSize, F_sBoxSize⟩ := h_box_size
  obtain ⟨f_sBoxRefused, d_sBoxRefused, a_sBoxRefused, F_sBoxRefused⟩ := h_box_refused
  obtain ⟨f_sTold, d_sTold, a_sTold, F_sTold⟩ := h_told
  obtain ⟨f_sLeapsTold, d_sLeapsTold, a_sLeapsTold, F_sLeapsTold⟩ := h_leaps_told
  obtain ⟨f_sRunAnswer, d_sRunAnswer, a_sRunAnswer, F_sRunAnswer⟩ := h_run_answer
  obtain ⟨f_sPieceAnswer, d_sPieceAnswer, a_sPieceAnswer, F_sPieceAnswer⟩ := h_piece_answer
  obtain ⟨f_sSameAnswer, d_sSameAnswer, a_sSameAnswer, F_sSameAnswer⟩ := h_same_answer
  obtain ⟨f_sApartAnswer, d_sApartAnswer, a_sApartAnswer, F_sApartAnswer⟩ := h_apart_answer
  obtain ⟨f_sEndsAnswer, d_sEndsAnswer, a_sEndsAnswer, F_sEndsAnswer⟩ := h_ends_answer
  obtain ⟨f_sBoxAnswer, d_sBoxAnswer, a_sBoxAnswer, F_sBoxAnswer⟩ := h_box_answer
  obtain ⟨f_sRowEnd, d_sRowEnd, a_sRowEnd, F_sRowEnd⟩ := h_row_end
  obtain ⟨f_sAnswers, d_sAnswers, a_sAnswers, F_sAnswers⟩ := h_answers
  have b_sMoved : Binds K d_sMoved ["move", "values"] [] := F_sMoved.binds (ps := ["move", "values"]) fun _ _ _ _ _ _ us hl => match us, hl with | [_, _], _ => rfl
  have b_sIsBeyond : Binds K d_sIsBeyond ["values"] [] := F_sIsBeyond.binds (ps := ["values"]) fun _ _ _ _ _ _ us hl => match us, hl with | [_], _ => rfl
  have b_sHolds : Binds K d_sHolds ["test", "values"] [] := F_sHolds.binds (ps := ["test", "values"]) fun _ _ _ _ _ _ us hl => match us, hl with | [_, _], _ => rfl
  have b_sAllHold : Binds K d_sAllHold ["tests", "values"] [] := F_sAllHold.binds (ps := ["tests", "values"]) fun _ _ _ _ _ _ us hl => match us, hl with | [_, _], _ => rfl
  have b_sChosen : Binds K d_sChosen ["branches", "values"] [] := F_sChosen.binds (ps := ["branches", "values"]) fun _ _ _ _ _ _ us hl => match us, hl with | [_, _], _ => rfl
  have b_sBranchMoved : Binds K d_sBranchMoved ["branches", "at", "values"] [] := F_sBranchMoved.binds (ps := ["branches", "at", "values"]) fun _ _ _ _ _ _ us hl => match us, hl with | [_, _, _], _ => rfl
  have b_sFlip : Binds K d_sFlip ["value", "step", "bound"] [] := F_sFlip.binds (ps := ["value", "step", "bound"]) fun _ _ _ _ _ _ us hl => match us, hl with | [_, _, _], _ => rfl
  have b_sFlipOf : Binds K d_sFlipOf ["test", "values", "step"] [] := F_sFlipOf.binds (ps := ["test", "values", "step"]) fun _ _ _ _ _ _ us hl => match us, hl with | [_, _, _], _ => rfl
  have b_sFlipsOfChoice : Binds K d_sFlipsOfChoice ["branches", "chosen_at", "values", "step"] [] := F_sFlipsOfChoice.binds (ps := ["branches", "chosen_at", "values", "step"]) fun _ _ _ _ _ _ us hl => match us, hl with | [_, _, _, _], _ => rfl
  have b_sFlipsOfFar : Binds K d_sFlipsOfFar ["values", "step"] [] := F_sFlipsOfFar.binds (ps := ["values", "step"]) fun _ _ _ _ _ _ us hl => match us, hl with | [_, _], _ => rfl
  have b_sStepMoved : Binds K d_sStepMoved ["move", "step"] [] := F_sStepMoved.binds (ps := ["move", "step"]) fun _ _ _ _ _ _ us hl => match us, hl with | [_, _], _ => rfl
  have b_sFlips : Binds K d_sFlips ["branches", "pattern", "values", "step"] [] := F_sFlips.binds (ps := ["branches", "pattern", "values", "step"]) fun _ _ _ _ _ _ us hl => match us, hl with | [_, _, _, _], _ => rfl
  have b_sNextBranches : Binds K d_sNextBranches ["branches", "values"] [] := F_sNextBranches.binds (ps := ["branches", "values"]) fun _ _ _ _ _ _ us hl => match us, hl with | [_, _], _ => rfl
  have b_sBeginsTwice : Binds K d_sBeginsTwice ["row", "k"] [] := F_sBeginsTwice.binds (ps := ["row", "k"]) fun _ _ _ _ _ _ us hl => match us, hl with | [_, _], _ => rfl
  have b_sPatternAt : Binds K d_sPatternAt ["branches", "values"] [] := F_sPatternAt.binds (ps := ["branches", "values"]) fun _ _ _ _ _ _ us hl => match us, hl with | [_, _], _ => rfl
  have b_sFollow : Binds K d_sFollow ["branches", "pattern", "values"] [] := F_sFollow.binds (ps := ["branches", "pattern", "values"]) fun _ _ _ _ _ _ us hl => match us, hl with | [_, _, _], _ => rfl
  have b_sSourcesOf : Binds K d_sSourcesOf ["branches", "pattern"] [] := F_sSourcesOf.binds (ps := ["branches", "pattern"]) fun _ _ _ _ _ _ us hl => match us, hl with | [_, _], _ => rfl
  have b_sCircleOf : Binds K d_sCircleOf ["sources", "counter"] [] := F_sCircleOf.binds (ps := ["sources", "counter"]) fun _ _ _ _ _ _ us hl => match us, hl with | [_, _], _ => rfl
  have b_sCommonMultiple : Binds K d_sCommonMultiple ["a", "b"] [] := F_sCommonMultiple.binds (ps := ["a", "b"]) fun _ _ _ _ _ _ us hl => match us, hl with | [_, _], _ => rfl
  have b_sAsksRemainder : Binds K d_sAsksRemainder ["branches"] [] := F_sAsksRemainder.binds (ps := ["branches"]) fun _ _ _ _ _ _ us hl => match us, hl with | [_], _ => rfl
  have b_sPeriod : Binds K d_sPeriod ["branches", "pattern"] [] := F_sPeriod.binds (ps := ["branches", "pattern"]) fun _ _ _ _ _ _ us hl => match us, hl with | [_, _], _ => rfl
  have b_sFurther : Binds K d_sFurther ["values", "step", "k"] [] := F_sFurther.binds (ps := ["values", "step", "k"]) fun _ _ _ _ _ _ us hl => match us, hl with | [_, _, _], _ => rfl
  have b_sBeginnings : Binds K d_sBeginnings ["branches", "pattern", "values", "most"] [] := F_sBeginnings.binds (ps := ["branches", "pattern", "values", "most"]) fun _ _ _ _ _ _ us hl => match us, hl with | [_, _, _, _], _ => rfl
  have b_sFirstStop : Binds K d_sFirstStop ["branches", "pattern", "values", "step"] [] := F_sFirstStop.binds (ps := ["branches", "pattern", "values", "step"]) fun _ _ _ _ _ _ us hl => match us, hl with | [_, _, _, _], _ => rfl
  have b_sStopTime : Binds K d_sStopTime ["branches", "pattern", "rows", "step", "around"] [] := F_sStopTime.binds (ps := ["branches", "pattern", "rows", "step", "around"]) fun _ _ _ _ _ _ us hl => match us, hl with | [_, _, _, _, _], _ => rfl
  have b_sOften : Binds K d_sOften ["branches", "pattern", "values"] [] := F_sOften.binds (ps := ["branches", "pattern", "values"]) fun _ _ _ _ _ _ us hl => match us, hl with | [_, _, _], _ => rfl
  have b_sOneLeap : Binds K d_sOneLeap ["branches", "values"] [] := F_sOneLeap.binds (ps := ["branches", "values"]) fun _ _ _ _ _ _ us hl => match us, hl with | [_, _], _ => rfl
  have b_sLeapLoop : Binds K d_sLeapLoop ["branches", "values"] [] := F_sLeapLoop.binds (ps := ["branches", "values"]) fun _ _ _ _ _ _ us hl => match us, hl with | [_, _], _ => rfl
  have b_sLeapPiece : Binds K d_sLeapPiece ["piece", "values"] [] := F_sLeapPiece.binds (ps := ["piece", "values"]) fun _ _ _ _ _ _ us hl => match us, hl with | [_, _], _ => rfl
  have b_sLeapProgram : Binds K d_sLeapProgram ["program", "values"] [] := F_sLeapProgram.binds (ps := ["program", "values"]) fun _ _ _ _ _ _ us hl => match us, hl with | [_, _], _ => rfl
  have b_sRunLoop : Binds K d_sRunLoop ["branches", "values", "left"] [] := F_sRunLoop.binds (ps := ["branches", "values", "left"]) fun _ _ _ _ _ _ us hl => match us, hl with | [_, _, _], _ => rfl
  have b_sRunPiece : Binds K d_sRunPiece ["piece", "values", "left"] [] := F_sRunPiece.binds (ps := ["piece", "values", "left"]) fun _ _ _ _ _ _ us hl => match us, hl with | [_, _, _], _ => rfl
  have b_sRunProgram : Binds K d_sRunProgram ["program", "values"] [] := F_sRunProgram.binds (ps := ["program", "values"]) fun _ _ _ _ _ _ us hl => match us, hl with | [_, _], _ => rfl
  have b_sLonger : Binds K d_sLonger ["inputs", "lo", "hi"] [] := F_sLonger.binds (ps := ["inputs", "lo", "hi"]) fun _ _ _ _ _ _ us hl => match us, hl with | [_, _, _], _ => rfl
  have b_sBox : Binds K d_sBox ["counters", "lo", "hi"] [] := F_sBox.binds (ps := ["counters", "lo", "hi"]) fun _ _ _ _ _ _ us hl => match us, hl with | [_, _, _], _ => rfl
  have b_sSame : Binds K d_sSame ["first", "second", "values"] [] := F_sSame.binds (ps := ["first", "second", "values"]) fun _ _ _ _ _ _ us hl => match us, hl with | [_, _, _], _ => rfl
  have b_sFirstOf : Binds K d_sFirstOf ["found"] [] := F_sFirstOf.binds (ps := ["found"]) fun _ _ _ _ _ _ us hl => match us, hl with | [_], _ => rfl
  have b_sApart : Binds K d_sApart ["first", "second", "lo", "hi"] [] := F_sApart.binds (ps := ["first", "second", "lo", "hi"]) fun _ _ _ _ _ _ us hl => match us, hl with | [_, _, _, _], _ => rfl
  have b_sEnds : Binds K d_sEnds ["program", "lo", "hi", "wanted"] [] := F_sEnds.binds (ps := ["program", "lo", "hi", "wanted"]) fun _ _ _ _ _ _ us hl => match us, hl with | [_, _, _, _], _ => rfl
  have b_sLongest : Binds K d_sLongest ["program", "lo", "hi"] [] := F_sLongest.binds (ps := ["program", "lo", "hi"]) fun _ _ _ _ _ _ us hl => match us, hl with | [_, _, _], _ => rfl
  have b_sNever : Binds K d_sNever ["program", "lo", "hi"] [] := F_sNever.binds (ps := ["program", "lo", "hi"]) fun _ _ _ _ _ _ us hl => match us, hl with | [_, _, _], _ => rfl
  have b_sCounts : Binds K d_sCounts ["program", "lo", "hi"] [] := F_sCounts.binds (ps := ["program", "lo", "hi"]) fun _ _ _ _ _ _ us hl => match us, hl with | [_, _, _], _ => rfl
  have b_sReaderInit : Binds K d_sReaderInit ["self", "numbers"] [] := F_sReaderInit.binds (ps := ["self", "numbers"]) fun _ _ _ _ _ _ us hl => match us, hl with | [_, _], _ => rfl
  have b_sReaderTake : Binds K d_sReaderTake ["self", "lo", "hi"] [] := F_sReaderTake.binds (ps := ["self", "lo", "hi"]) fun _ _ _ _ _ _ us hl => match us, hl with | [_, _, _], _ => rfl
  have b_sReaderIsDone : Binds K d_sReaderIsDone ["self"] [] := F_sReaderIsDone.binds (ps := ["self"]) fun _ _ _ _ _ _ us hl => match us, hl with | [_], _ => rfl
  have b_sReadGiven : Binds K d_sReadGiven ["reader", "counters"] [] := F_sReadGiven.binds (ps := ["reader", "counters"]) fun _ _ _ _ _ _ us hl => match us, hl with | [_, _], _ => rfl
  have b_sReadMove : Binds K d_sReadMove ["reader", "counters"] [] := F_sReadMove.binds (ps := ["reader", "counters"]) fun _ _ _ _ _ _ us hl => match us, hl with | [_, _], _ => rfl
  have b_sReadTest : Binds K d_sReadTest ["reader", "counters"] [] := F_sReadTest.binds (ps := ["reader", "counters"]) fun _ _ _ _ _ _ us hl => match us, hl with | [_, _], _ => rfl
  have b_sReadBranch : Binds K d_sReadBranch ["reader", "counters"] [] := F_sReadBranch.binds (ps := ["reader", "counters"]) fun _ _ _ _ _ _ us hl => match us, hl with | [_, _], _ => rfl
  have b_sReadPiece : Binds K d_sReadPiece ["reader", "counters"] [] := F_sReadPiece.binds (ps := ["reader", "counters"]) fun _ _ _ _ _ _ us hl => match us, hl with | [_, _], _ => rfl
  have b_sReadProgram : Binds K d_sReadProgram ["numbers"] [] := F_sReadProgram.binds (ps := ["numbers"]) fun _ _ _ _ _ _ us hl => match us, hl with | [_], _ => rfl
  have b_sWhichRefused : Binds K d_sWhichRefused ["which"] [] := F_sWhichRefused.binds (ps := ["which"]) fun _ _ _ _ _ _ us hl => match us, hl with | [_], _ => rfl
  have b_sPieceRefused : Binds K d_sPieceRefused ["program", "at"] [] := F_sPieceRefused.binds (ps := ["program", "at"]) fun _ _ _ _ _ _ us hl => match us, hl with | [_, _], _ => rfl
  have b_sManyRefused : Binds K d_sManyRefused ["counters", "values"] [] := F_sManyRefused.binds (ps := ["counters", "values"]) fun _ _ _ _ _ _ us hl => match us, hl with | [_, _], _ => rfl
  have b_sValuesRefused : Binds K d_sValuesRefused ["counters", "values"] [] := F_sValuesRefused.binds (ps := ["counters", "values"]) fun _ _ _ _ _ _ us hl => match us, hl with | [_, _], _ => rfl
  have b_sCountersRefused : Binds K d_sCountersRefused ["first", "second"] [] := F_sCountersRefused.binds (ps := ["first", "second"]) fun _ _ _ _ _ _ us hl => match us, hl with | [_, _], _ => rfl
  have b_sBoxSize : Binds K d_sBoxSize ["counters", "lo", "hi"] [] := F_sBoxSize.binds (ps := ["counters", "lo", "hi"]) fun _ _ _ _ _ _ us hl => match us, hl with | [_, _, _], _ => rfl
  have b_sBoxRefused : Binds K d_sBoxRefused ["counters", "lo", "hi"] [] := F_sBoxRefused.binds (ps := ["counters", "lo", "hi"]) fun _ _ _ _ _ _ us hl => match us, hl with | [_, _, _], _ => rfl
  have b_sTold : Binds K d_sTold ["run"] [] := F_sTold.binds (ps := ["run"]) fun _ _ _ _ _ _ us hl => match us, hl with | [_], _ => rfl
  have b_sLeapsTold : Binds K d_sLeapsTold ["leaps"] [] := F_sLeapsTold.binds (ps := ["leaps"]) fun _ _ _ _ _ _ us hl => match us, hl with | [_], _ => rfl
  have b_sRunAnswer : Binds K d_sRunAnswer ["place", "program", "values"] [] := F_sRunAnswer.binds (ps := ["place", "program", "values"]) fun _ _ _ _ _ _ us hl => match us, hl with | [_, _, _], _ => rfl
  have b_sPieceAnswer : Binds K d_sPieceAnswer ["program", "at", "values"] [] := F_sPieceAnswer.binds (ps := ["program", "at", "values"]) fun _ _ _ _ _ _ us hl => match us, hl with | [_, _, _], _ => rfl
  have b_sSameAnswer : Binds K d_sSameAnswer ["first", "second", "values"] [] := F_sSameAnswer.binds (ps := ["first", "second", "values"]) fun _ _ _ _ _ _ us hl => match us, hl with | [_, _, _], _ => rfl
  have b_sApartAnswer : Binds K d_sApartAnswer ["first", "second", "lo", "hi"] [] := F_sApartAnswer.binds (ps := ["first", "second", "lo", "hi"]) fun _ _ _ _ _ _ us hl => match us, hl with | [_, _, _, _], _ => rfl
  have b_sEndsAnswer : Binds K d_sEndsAnswer ["program", "lo", "hi", "values"] [] := F_sEndsAnswer.binds (ps := ["program", "lo", "hi", "values"]) fun _ _ _ _ _ _ us hl => match us, hl with | [_, _, _, _], _ => rfl
  have b_sBoxAnswer : Binds K d_sBoxAnswer ["place", "program", "lo", "hi", "values"] [] := F_sBoxAnswer.binds (ps := ["place", "program", "lo", "hi", "values"]) fun _ _ _ _ _ _ us hl => match us, hl with | [_, _, _, _, _], _ => rfl
  have b_sMachineInit : Binds K d_sMachineInit ["self"] [] := F_sMachineInit.binds (ps := ["self"]) fun _ _ _ _ _ _ us hl => match us, hl with | [_], _ => rfl
  have b_sMachineReplaceProgram : Binds K d_sMachineReplaceProgram ["self", "which", "row"] [] := F_sMachineReplaceProgram.binds (ps := ["self", "which", "row"]) fun _ _ _ _ _ _ us hl => match us, hl with | [_, _, _], _ => rfl
  have b_sMachineAnswer : Binds K d_sMachineAnswer ["self", "place", "numbers", "row"] [] := F_sMachineAnswer.binds (ps := ["self", "place", "numbers", "row"]) fun _ _ _ _ _ _ us hl => match us, hl with | [_, _, _, _], _ => rfl
  have b_sRowEnd : Binds K d_sRowEnd ["calls", "place", "at"] [] := F_sRowEnd.binds (ps := ["calls", "place", "at"]) fun _ _ _ _ _ _ us hl => match us, hl with | [_, _, _], _ => rfl
  have b_sAnswers : Binds K d_sAnswers ["calls"] [] := F_sAnswers.binds (ps := ["calls"]) fun _ _ _ _ _ _ us hl => match us, hl with | [_], _ => rfl
  have e := hfa.symm.trans (PySem.W.mg_of X Gs a_sAnswers)
  cases e
  obtain ⟨ko, kd, kV, kdoc, kpm, kan, kcd, kct, ksl, rfl, klk, kc⟩ := id F_sAnswers.ex
  refine ⟨PySem.W.fnOf "answers" "answers" (defArgs sAnswers) (defBody sAnswers) (defScope sAnswers) .none kV kdoc kpm kan kcd kct, fun s us hu => match us, hu with | [_], _ => .of_eq rfl, fun base _ _ => ?_⟩
  have D_sMoved : Def P w K mg base CX0 1 "moved" ["move", "values"] spMoved f_sMoved d_sMoved := ⟨PySem.W.mg_of X Gs a_sMoved, F_sMoved.kp, b_sMoved, ok_moved (F := F_sMoved)⟩
  have D_sIsBeyond : Def P w K mg base CX0 1 "is_beyond" ["values"] spIsBeyond f_sIsBeyond d_sIsBeyond := ⟨PySem.W.mg_of X Gs a_sIsBeyond, F_sIsBeyond.kp, b_sIsBeyond, ok_is_beyond (G := G) (F := F_sIsBeyond)⟩
  have D_sHolds : Def P w K mg base CX0 1 "holds" ["test", "values"] spHolds f_sHolds d_sHolds := ⟨PySem.W.mg_of X Gs a_sHolds, F_sHolds.kp, b_sHolds, ok_holds (F := F_sHolds)⟩
  have D_sAllHold : Def P w K mg base CX0 2 "all_hold" ["tests", "values"] spAllHold f_sAllHold d_sAllHold := ⟨PySem.W.mg_of X Gs a_sAllHold, F_sAllHold.kp, b_sAllHold, ok_all_hold (DHolds := D_sHolds) (F := F_sAllHold)⟩
  have D_sChosen : Def P w K mg base CX0 3 "chosen" ["branches", "values"] spChosen f_sChosen d_sChosen := ⟨PySem.W.mg_of X Gs a_sChosen, F_sChosen.kp, b_sChosen, ok_chosen (G := G) (DAllHold := D_sAllHold) (F := F_sChosen)⟩
  have D_sBranchMoved : Def P w K mg base CX0 2 "branch_moved" ["branches", "at", "values"] spBranchMoved f_sBranchMoved d_sBranchMoved := ⟨PySem.W.mg_of X Gs a_sBranchMoved, F_sBranchMoved.kp, b_sBranchMoved, ok_branch_moved (DMoved := D_sMoved) (F := F_sBranchMoved)⟩
  have D_sFlip : Def P w K mg base CX0 1 "flip" ["value", "step", "bound"] spFlip f_sFlip d_sFlip := ⟨PySem.W.mg_of X Gs a_sFlip, F_sFlip.kp, b_sFlip, ok_flip (F := F_sFlip)⟩
  have D_sFlipOf : Def P w K mg base CX0 2 "flip_of" ["test", "values", "step"] spFlipOf f_sFlipOf d_sFlipOf := ⟨PySem.W.mg_of X Gs a_sFlipOf, F_sFlipOf.kp, b_sFlipOf, ok_flip_of (DFlip := D_sFlip) (F := F_sFlipOf)⟩
  have D_sFlipsOfChoice : Def P w K mg base CX0 3 "flips_of_choice" ["branches", "chosen_at", "values", "step"] spFlipsOfChoice f_sFlipsOfChoice d_sFlipsOfChoice := ⟨PySem.W.mg_of X Gs a_sFlipsOfChoice, F_sFlipsOfChoice.kp, b_sFlipsOfChoice, ok_flips_of_choice (G := G) (DFlipOf := D_sFlipOf) (F := F_sFlipsOfChoice)⟩
  have D_sFlipsOfFar : Def P w K mg base CX0 2 "flips_of_far" ["values", "step"] spFlipsOfFar f_sFlipsOfFar d_sFlipsOfFar := ⟨PySem.W.mg_of X Gs a_sFlipsOfFar, F_sFlipsOfFar.kp, b_sFlipsOfFar, ok_flips_of_far (G := G) (DFlip := D_sFlip) (F := F_sFlipsOfFar)⟩
  have D_sStepMoved : Def P w K mg base CX0 1 "step_moved" ["move", "step"] spStepMoved f_sStepMoved d_sStepMoved := ⟨PySem.W.mg_of X Gs a_sStepMoved, F_sStepMoved.kp, b_sStepMoved, ok_step_moved (F := F_sStepMoved)⟩
  have D_sFlips : Def P w K mg base CX0 4 "flips" ["branches", "pattern", "values", "step"] spFlips f_sFlips d_sFlips := ⟨PySem.W.mg_of X Gs a_sFlips, F_sFlips.kp, b_sFlips, ok_flips (G := G) (DFlipsOfChoice := D_sFlipsOfChoice) (DBranchMoved := D_sBranchMoved) (DStepMoved := D_sStepMoved) (DFlipsOfFar := D_sFlipsOfFar) (F := F_sFlips)⟩
  have D_sNextBranches : Def P w K mg base CX0 4 "next_branches" ["branches", "values"] spNextBranches f_sNextBranches d_sNextBranches := ⟨PySem.W.mg_of X Gs a_sNextBranches, F_sNextBranches.kp, b_sNextBranches, ok_next_branches (G := G) (DChosen := D_sChosen) (DBranchMoved := D_sBranchMoved) (F := F_sNextBranches)⟩
  have D_sBeginsTwice : Def P w K mg base CX0 1 "begins_twice" ["row", "k"] spBeginsTwice f_sBeginsTwice d_sBeginsTwice := ⟨PySem.W.mg_of X Gs a_sBeginsTwice, F_sBeginsTwice.kp, b_sBeginsTwice, ok_begins_twice (G := G) (F := F_sBeginsTwice)⟩
  have D_sPatternAt : Def P w K mg base CX0 5 "pattern_at" ["branches", "values"] spPatternAt f_sPatternAt d_sPatternAt := ⟨PySem.W.mg_of X Gs a_sPatternAt, F_sPatternAt.kp, b_sPatternAt, ok_pattern_at (G := G) (DNextBranches := D_sNextBranches) (DBeginsTwice := D_sBeginsTwice) (F := F_sPatternAt)⟩
  have D_sFollow : Def P w K mg base CX0 4 "follow" ["branches", "pattern", "values"] spFollow f_sFollow d_sFollow := ⟨PySem.W.mg_of X Gs a_sFollow, F_sFollow.kp, b_sFollow, ok_follow (G := G) (DChosen := D_sChosen) (DBranchMoved := D_sBranchMoved) (DIsBeyond := D_sIsBeyond) (F := F_sFollow)⟩
  have D_sSourcesOf : Def P w K mg base CX0 1 "sources_of" ["branches", "pattern"] spSourcesOf f_sSourcesOf d_sSourcesOf := ⟨PySem.W.mg_of X Gs a_sSourcesOf, F_sSourcesOf.kp, b_sSourcesOf, ok_sources_of (G := G) (F := F_sSourcesOf)⟩
  have D_sCircleOf : Def P w K mg base CX0 1 "circle_of" ["sources", "counter"] spCircleOf f_sCircleOf d_sCircleOf := ⟨PySem.W.mg_of X Gs a_sCircleOf, F_sCircleOf.kp, b_sCircleOf, ok_circle_of (G := G) (F := F_sCircleOf)⟩
  have D_sCommonMultiple : Def P w K mg base CX0 1 "common_multiple" ["a", "b"] spCommonMultiple f_sCommonMultiple d_sCommonMultiple := ⟨PySem.W.mg_of X Gs a_sCommonMultiple, F_sCommonMultiple.kp, b_sCommonMultiple, ok_common_multiple (G := G) (F := F_sCommonMultiple)⟩
  have D_sAsksRemainder : Def P w K mg base CX0 1 "asks_remainder" ["branches"] spAsksRemainder f_sAsksRemainder d_sAsksRemainder := ⟨PySem.W.mg_of X Gs a_sAsksRemainder, F_sAsksRemainder.kp, b_sAsksRemainder, ok_asks_remainder (G := G) (F := F_sAsksRemainder)⟩
  have D_sPeriod : Def P w K mg base CX0 2 "period" ["branches", "pattern"] spPeriod f_sPeriod d_sPeriod := ⟨PySem.W.mg_of X Gs a_sPeriod, F_sPeriod.kp, b_sPeriod, ok_period (G := G) (DSourcesOf := D_sSourcesOf) (DCircleOf := D_sCircleOf) (DCommonMultiple := D_sCommonMultiple) (DAsksRemainder := D_sAsksRemainder) (F := F_sPeriod)⟩
  have D_sFurther : Def P w K mg base CX0 1 "further" ["values", "step", "k"] spFurther f_sFurther d_sFurther := ⟨PySem.W.mg_of X Gs a_sFurther, F_sFurther.kp, b_sFurther, ok_further (G := G) (F := F_sFurther)⟩
  have D_sBeginnings : Def P w K mg base CX0 5 "beginnings" ["branches", "pattern", "values", "most"] spBeginnings f_sBeginnings d_sBeginnings := ⟨PySem.W.mg_of X Gs a_sBeginnings, F_sBeginnings.kp, b_sBeginnings, ok_beginnings (G := G) (DFollow := D_sFollow) (F := F_sBeginnings)⟩
  have D_sFirstStop : Def P w K mg base CX0 5 "first_stop" ["branches", "pattern", "values", "step"] spFirstStop f_sFirstStop d_sFirstStop := ⟨PySem.W.mg_of X Gs a_sFirstStop, F_sFirstStop.kp, b_sFirstStop, ok_first_stop (DFlips := D_sFlips) (DFollow := D_sFollow) (DFurther := D_sFurther) (F := F_sFirstStop)⟩
  have D_sStopTime : Def P w K mg base CX0 6 "stop_time" ["branches", "pattern", "rows", "step", "around"] spStopTime f_sStopTime d_sStopTime := ⟨PySem.W.mg_of X Gs a_sStopTime, F_sStopTime.kp, b_sStopTime, ok_stop_time (G := G) (DFirstStop := D_sFirstStop) (F := F_sStopTime)⟩
  have D_sOften : Def P w K mg base CX0 7 "often" ["branches", "pattern", "values"] spOften f_sOften d_sOften := ⟨PySem.W.mg_of X Gs a_sOften, F_sOften.kp, b_sOften, ok_often (G := G) (DPeriod := D_sPeriod) (DBeginnings := D_sBeginnings) (DStopTime := D_sStopTime) (DFurther := D_sFurther) (F := F_sOften)⟩
  have D_sOneLeap : Def P w K mg base CX0 8 "one_leap" ["branches", "values"] spOneLeap f_sOneLeap d_sOneLeap := ⟨PySem.W.mg_of X Gs a_sOneLeap, F_sOneLeap.kp, b_sOneLeap, ok_one_leap (G := G) (DPatternAt := D_sPatternAt) (DOften := D_sOften) (DBranchMoved := D_sBranchMoved) (DIsBeyond := D_sIsBeyond) (F := F_sOneLeap)⟩
  have D_sLeapLoop : Def P w K mg base CX0 9 "leap_loop" ["branches", "values"] spLeapLoop f_sLeapLoop d_sLeapLoop := ⟨PySem.W.mg_of X Gs a_sLeapLoop, F_sLeapLoop.kp, b_sLeapLoop, ok_leap_loop (G := G) (DChosen := D_sChosen) (DOneLeap := D_sOneLeap) (F := F_sLeapLoop)⟩
  have D_sLeapPiece : Def P w K mg base CX0 10 "leap_piece" ["piece", "values"] spLeapPiece f_sLeapPiece d_sLeapPiece := ⟨PySem.W.mg_of X Gs a_sLeapPiece, F_sLeapPiece.kp, b_sLeapPiece, ok_leap_piece (DLeapLoop := D_sLeapLoop) (DMoved := D_sMoved) (DIsBeyond := D_sIsBeyond) (F := F_sLeapPiece)⟩
  have D_sLeapProgram : Def P w K mg base CX0 11 "leap_program" ["program", "values"] spLeapProgram f_sLeapProgram d_sLeapProgram := ⟨PySem.W.mg_of X Gs a_sLeapProgram, F_sLeapProgram.kp, b_sLeapProgram, ok_leap_program (G := G) (DLeapPiece := D_sLeapPiece) (F := F_sLeapProgram)⟩
  have D_sRunLoop : Def P w K mg base CX0 4 "run_loop" ["branches", "values", "left"] spRunLoop f_sRunLoop d_sRunLoop := ⟨PySem.W.mg_of X Gs a_sRunLoop, F_sRunLoop.kp, b_sRunLoop, ok_run_loop (G := G) (DChosen := D_sChosen) (DBranchMoved := D_sBranchMoved) (DIsBeyond := D_sIsBeyond) (F := F_sRunLoop)⟩
  have D_sRunPiece : Def P w K mg base CX0 5 "run_piece" ["piece", "values", "left"] spRunPiece f_sRunPiece d_sRunPiece := ⟨PySem.W.mg_of X Gs a_sRunPiece, F_sRunPiece.kp, b_sRunPiece, ok_run_piece (DRunLoop := D_sRunLoop) (DMoved := D_sMoved) (DIsBeyond := D_sIsBeyond) (F := F_sRunPiece)⟩
  have D_sRunProgram : Def P w K mg base CX0 6 "run_program" ["program", "values"] spRunProgram f_sRunProgram d_sRunProgram := ⟨PySem.W.mg_of X Gs a_sRunProgram, F_sRunProgram.kp, b_sRunProgram, ok_run_program (G := G) (DRunPiece := D_sRunPiece) (F := F_sRunProgram)⟩
  have D_sLonger : Def P w K mg base CX0 1 "longer" ["inputs", "lo", "hi"] spLonger f_sLonger d_sLonger := ⟨PySem.W.mg_of X Gs a_sLonger, F_sLonger.kp, b_sLonger, ok_longer (G := G) (F := F_sLonger)⟩
  have D_sBox : Def P w K mg base CX0 2 "box" ["counters", "lo", "hi"] spBox f_sBox d_sBox := ⟨PySem.W.mg_of X Gs a_sBox, F_sBox.kp, b_sBox, ok_box (G := G) (DLonger := D_sLonger) (F := F_sBox)⟩
  have D_sSame : Def P w K mg base CX0 12 "same" ["first", "second", "values"] spSame f_sSame d_sSame := ⟨PySem.W.mg_of X Gs a_sSame, F_sSame.kp, b_sSame, ok_same (DLeapProgram := D_sLeapProgram) (F := F_sSame)⟩
  have D_sFirstOf : Def P w K mg base CX0 1 "first_of" ["found"] spFirstOf f_sFirstOf d_sFirstOf := ⟨PySem.W.mg_of X Gs a_sFirstOf, F_sFirstOf.kp, b_sFirstOf, ok_first_of (G := G) (F := F_sFirstOf)⟩
  have D_sApart : Def P w K mg base CX0 13 "apart" ["first", "second", "lo", "hi"] spApart f_sApart d_sApart := ⟨PySem.W.mg_of X Gs a_sApart, F_sApart.kp, b_sApart, ok_apart (DBox := D_sBox) (DSame := D_sSame) (DFirstOf := D_sFirstOf) (F := F_sApart)⟩
  have D_sEnds : Def P w K mg base CX0 12 "ends" ["program", "lo", "hi", "wanted"] spEnds f_sEnds d_sEnds := ⟨PySem.W.mg_of X Gs a_sEnds, F_sEnds.kp, b_sEnds, ok_ends (G := G) (DBox := D_sBox) (DLeapProgram := D_sLeapProgram) (DFirstOf := D_sFirstOf) (F := F_sEnds)⟩
  have D_sLongest : Def P w K mg base CX0 12 "longest" ["program", "lo", "hi"] spLongest f_sLongest d_sLongest := ⟨PySem.W.mg_of X Gs a_sLongest, F_sLongest.kp, b_sLongest, ok_longest (G := G) (DBox := D_sBox) (DLeapProgram := D_sLeapProgram) (F := F_sLongest)⟩
  have D_sNever : Def P w K mg base CX0 12 "never" ["program", "lo", "hi"] spNever f_sNever d_sNever := ⟨PySem.W.mg_of X Gs a_sNever, F_sNever.kp, b_sNever, ok_never (DBox := D_sBox) (DLeapProgram := D_sLeapProgram) (F := F_sNever)⟩
  have D_sCounts : Def P w K mg base CX0 12 "counts" ["program", "lo", "hi"] spCounts f_sCounts d_sCounts := ⟨PySem.W.mg_of X Gs a_sCounts, F_sCounts.kp, b_sCounts, ok_counts (DBox := D_sBox) (DLeapProgram := D_sLeapProgram) (F := F_sCounts)⟩
  have D_sReaderInit : DefM P w K mg base CX0 1 CR "__init__" ["self", "numbers"] (spReaderInit CR) f_sReaderInit d_sReaderInit := ⟨m_sReaderInit, b_sReaderInit, ok_reader_init (T := TR) (F := F_sReaderInit)⟩
  have D_sReaderTake : DefM P w K mg base (L2.CX P w) 1 CR "take" ["self", "lo", "hi"] (spTake CR CN) f_sReaderTake d_sReaderTake := ⟨m_sReaderTake, b_sReaderTake, ok_take (G := G) (T := TR) (TNot := TN) (F := F_sReaderTake)⟩
  have D_sReaderIsDone : DefM P w K mg base CX0 1 CR "is_done" ["self"] (spIsDone CR) f_sReaderIsDone d_sReaderIsDone := ⟨m_sReaderIsDone, b_sReaderIsDone, ok_is_done (G := G) (T := TR) (F := F_sReaderIsDone)⟩
  have D_sReadGiven : Def P w K mg base (L2.CX P w) 2 "read_given" ["reader", "counters"] (spRd CR CN readGiven GivenAt) f_sReadGiven d_sReadGiven := ⟨PySem.W.mg_of X Gs a_sReadGiven, F_sReadGiven.kp, b_sReadGiven, ok_read_given (TReader := TR) (DReaderTake := D_sReaderTake) (F := F_sReadGiven)⟩
  have D_sReadMove : Def P w K mg base (L2.CX P w) 3 "read_move" ["reader", "counters"] (spRd CR CN readMove MoveAt) f_sReadMove d_sReadMove := ⟨PySem.W.mg_of X Gs a_sReadMove, F_sReadMove.kp, b_sReadMove, ok_read_move (G := G) (DReadGiven := D_sReadGiven) (F := F_sReadMove)⟩
  have D_sReadTest : Def P w K mg base (L2.CX P w) 2 "read_test" ["reader", "counters"] (spRd CR CN readTest TestAt) f_sReadTest d_sReadTest := ⟨PySem.W.mg_of X Gs a_sReadTest, F_sReadTest.kp, b_sReadTest, ok_read_test (TReader := TR) (TNot := TN) (DReaderTake := D_sReaderTake) (F := F_sReadTest)⟩
  have D_sReadBranch : Def P w K mg base (L2.CX P w) 4 "read_branch" ["reader", "counters"] (spRd CR CN readBranch BranchAt) f_sReadBranch d_sReadBranch := ⟨PySem.W.mg_of X Gs a_sReadBranch, F_sReadBranch.kp, b_sReadBranch, ok_read_branch (G := G) (TReader := TR) (DReaderTake := D_sReaderTake) (DReadTest := D_sReadTest) (DReadMove := D_sReadMove) (F := F_sReadBranch)⟩
  have D_sReadPiece : Def P w K mg base (L2.CX P w) 5 "read_piece" ["reader", "counters"] (spRd CR CN readPiece PieceAt) f_sReadPiece d_sReadPiece := ⟨PySem.W.mg_of X Gs a_sReadPiece, F_sReadPiece.kp, b_sReadPiece, ok_read_piece (G := G) (TReader := TR) (DReaderTake := D_sReaderTake) (DReadBranch := D_sReadBranch) (DReadMove := D_sReadMove) (F := F_sReadPiece)⟩
  have D_sReadProgram : Def P w K mg base (L2.CX P w) 6 "read_program" ["numbers"] (spReadProgram CN) f_sReadProgram d_sReadProgram := ⟨PySem.W.mg_of X Gs a_sReadProgram, F_sReadProgram.kp, b_sReadProgram, ok_read_program (G := G) (TReader := TR) (TNot := TN) (MReader := MR) (DReaderInit := D_sReaderInit) (DReaderTake := D_sReaderTake) (DReaderIsDone := D_sReaderIsDone) (DReadPiece := D_sReadPiece) (F := F_sReadProgram)⟩
  have D_sWhichRefused : Def P w K mg base CX0 1 "which_refused" ["which"] spWhichRefused f_sWhichRefused d_sWhichRefused := ⟨PySem.W.mg_of X Gs a_sWhichRefused, F_sWhichRefused.kp, b_sWhichRefused, ok_which_refused (F := F_sWhichRefused)⟩
  have D_sPieceRefused : Def P w K mg base CX0 1 "piece_refused" ["program", "at"] spPieceRefused f_sPieceRefused d_sPieceRefused := ⟨PySem.W.mg_of X Gs a_sPieceRefused, F_sPieceRefused.kp, b_sPieceRefused, ok_piece_refused (G := G) (F := F_sPieceRefused)⟩
  have D_sManyRefused : Def P w K mg base CX0 1 "many_refused" ["counters", "values"] spManyRefused f_sManyRefused d_sManyRefused := ⟨PySem.W.mg_of X Gs a_sManyRefused, F_sManyRefused.kp, b_sManyRefused, ok_many_refused (G := G) (F := F_sManyRefused)⟩
  have D_sValuesRefused : Def P w K mg base CX0 2 "values_refused" ["counters", "values"] spValuesRefused f_sValuesRefused d_sValuesRefused := ⟨PySem.W.mg_of X Gs a_sValuesRefused, F_sValuesRefused.kp, b_sValuesRefused, ok_values_refused (G := G) (DManyRefused := D_sManyRefused) (F := F_sValuesRefused)⟩
  have D_sCountersRefused : Def P w K mg base CX0 1 "counters_refused" ["first", "second"] spCountersRefused f_sCountersRefused d_sCountersRefused := ⟨PySem.W.mg_of X Gs a_sCountersRefused, F_sCountersRefused.kp, b_sCountersRefused, ok_counters_refused (F := F_sCountersRefused)⟩
  have D_sBoxSize : Def P w K mg base CX0 1 "box_size" ["counters", "lo", "hi"] spBoxSize f_sBoxSize d_sBoxSize := ⟨PySem.W.mg_of X Gs a_sBoxSize, F_sBoxSize.kp, b_sBoxSize, ok_box_size (G := G) (F := F_sBoxSize)⟩
  have D_sBoxRefused : Def P w K mg base CX0 2 "box_refused" ["counters", "lo", "hi"] spBoxRefused f_sBoxRefused d_sBoxRefused := ⟨PySem.W.mg_of X Gs a_sBoxRefused, F_sBoxRefused.kp, b_sBoxRefused, ok_box_refused (G := G) (DBoxSize := D_sBoxSize) (F := F_sBoxRefused)⟩
  have D_sTold : Def P w K mg base CX0 1 "told" ["run"] spTold f_sTold d_sTold := ⟨PySem.W.mg_of X Gs a_sTold, F_sTold.kp, b_sTold, ok_told (G := G) (F := F_sTold)⟩
  have D_sLeapsTold : Def P w K mg base CX0 1 "leaps_told" ["leaps"] spLeapsTold f_sLeapsTold d_sLeapsTold := ⟨PySem.W.mg_of X Gs a_sLeapsTold, F_sLeapsTold.kp, b_sLeapsTold, ok_leaps_told (G := G) (F := F_sLeapsTold)⟩
  have D_sRunAnswer : Def P w K mg base CX0 12 "run_answer" ["place", "program", "values"] spRunAnswer f_sRunAnswer d_sRunAnswer := ⟨PySem.W.mg_of X Gs a_sRunAnswer, F_sRunAnswer.kp, b_sRunAnswer, ok_run_answer (DValuesRefused := D_sValuesRefused) (DRunProgram := D_sRunProgram) (DLeapProgram := D_sLeapProgram) (DTold := D_sTold) (DLeapsTold := D_sLeapsTold) (F := F_sRunAnswer)⟩
  have D_sPieceAnswer : Def P w K mg base CX0 11 "piece_answer" ["program", "at", "values"] spPieceAnswer f_sPieceAnswer d_sPieceAnswer := ⟨PySem.W.mg_of X Gs a_sPieceAnswer, F_sPieceAnswer.kp, b_sPieceAnswer, ok_piece_answer (DPieceRefused := D_sPieceRefused) (DValuesRefused := D_sValuesRefused) (DLeapPiece := D_sLeapPiece) (DTold := D_sTold) (F := F_sPieceAnswer)⟩
  have D_sSameAnswer : Def P w K mg base CX0 13 "same_answer" ["first", "second", "values"] spSameAnswer f_sSameAnswer d_sSameAnswer := ⟨PySem.W.mg_of X Gs a_sSameAnswer, F_sSameAnswer.kp, b_sSameAnswer, ok_same_answer (DCountersRefused := D_sCountersRefused) (DValuesRefused := D_sValuesRefused) (DSame := D_sSame) (F := F_sSameAnswer)⟩
  have D_sApartAnswer : Def P w K mg base CX0 14 "apart_answer" ["first", "second", "lo", "hi"] spApartAnswer f_sApartAnswer d_sApartAnswer := ⟨PySem.W.mg_of X Gs a_sApartAnswer, F_sApartAnswer.kp, b_sApartAnswer, ok_apart_answer (DCountersRefused := D_sCountersRefused) (DBoxRefused := D_sBoxRefused) (DApart := D_sApart) (F := F_sApartAnswer)⟩
  have D_sEndsAnswer : Def P w K mg base CX0 13 "ends_answer" ["program", "lo", "hi", "values"] spEndsAnswer f_sEndsAnswer d_sEndsAnswer := ⟨PySem.W.mg_of X Gs a_sEndsAnswer, F_sEndsAnswer.kp, b_sEndsAnswer, ok_ends_answer (DManyRefused := D_sManyRefused) (DEnds := D_sEnds) (F := F_sEndsAnswer)⟩
  have D_sBoxAnswer : Def P w K mg base CX0 14 "box_answer" ["place", "program", "lo", "hi", "values"] spBoxAnswer f_sBoxAnswer d_sBoxAnswer := ⟨PySem.W.mg_of X Gs a_sBoxAnswer, F_sBoxAnswer.kp, b_sBoxAnswer, ok_box_answer (DBoxRefused := D_sBoxRefused) (DEndsAnswer := D_sEndsAnswer) (DLongest := D_sLongest) (DNever := D_sNever) (DCounts := D_sCounts) (F := F_sBoxAnswer)⟩
  have D_sMachineInit : DefM P w K mg base CX0 1 CM "__init__" ["self"] (spMachineInit CM) f_sMachineInit d_sMachineInit := ⟨m_sMachineInit, b_sMachineInit, ok_machine_init (T := TM) (F := F_sMachineInit)⟩
  have D_sMachineReplaceProgram : DefM P w K mg base CX0 7 CM "replace_program" ["self", "which", "row"] (spReplaceProgram CM) f_sMachineReplaceProgram d_sMachineReplaceProgram := ⟨m_sMachineReplaceProgram, b_sMachineReplaceProgram, ok_replace_program (G := G) (T := TM) (TNot := TN) (DReadProgram := D_sReadProgram) (F := F_sMachineReplaceProgram)⟩
  have D_sMachineAnswer : DefM P w K mg base CX0 15 CM "answer" ["self", "place", "numbers", "row"] (spMachineAnswer CM) f_sMachineAnswer d_sMachineAnswer := ⟨m_sMachineAnswer, b_sMachineAnswer, ok_machine_answer (T := TM) (DSameAnswer := D_sSameAnswer) (DApartAnswer := D_sApartAnswer) (DWhichRefused := D_sWhichRefused) (DMachineReplaceProgram := D_sMachineReplaceProgram) (DRunAnswer := D_sRunAnswer) (DPieceAnswer := D_sPieceAnswer) (DBoxAnswer := D_sBoxAnswer) (F := F_sMachineAnswer)⟩
  have D_sRowEnd : Def P w K mg base CX0 1 "row_end" ["calls", "place", "at"] (spRowEnd K) f_sRowEnd d_sRowEnd := ⟨PySem.W.mg_of X Gs a_sRowEnd, F_sRowEnd.kp, b_sRowEnd, ok_row_end (GROWS := GROWS) (F := F_sRowEnd)⟩
  exact ok_answers (G := G) (TMachine := TM) (MMachine := MM) (DMachineInit := D_sMachineInit) (GNUMBERS := GNUMBERS) (DRowEnd := D_sRowEnd) (DMachineAnswer := D_sMachineAnswer) (F := F_sAnswers)
end Lp
open PySem PySem.W PyProof.Rows
set_option maxRecDepth 100000 in
set_option maxHeartbeats 0 in
theorem PySem.Challenge.cw_leaptprograms_s01_answers_holds : PySem.Challenge.rw_leaptprograms_s01_answers.Holds := by
  w_on; k_headS; (case hw => exact ⟨[.list [.int 5, .int 0]], by decide +kernel, by decide +kernel⟩)
  k_fillS
  refine L2.walk_specK (r := PySem.Challenge.rw_leaptprograms_s01_answers) (k := 16) (CX := L2.CX0) (ps := ["calls"]) (sp := Lp.spAnswers) (by decide +kernel) rfl rfl ⟨rfl, by decide, by decide⟩ (fun w h Y => PySem.W.kIn_of Y) ?F ?S (fun _ _ _ _ z => z)
  case F => as_aux_lemma =>
    intro w mg fa h Y KX G hmg
    refine' Lp.all_mk KX G hmg ?n_len ?n_range ?n_enumerate ?n_sorted ?n_set ?c_FAR ?c_AHEAD ?c_SETTLED ?c_MOST_LEAPS ?c_MOST_ROUNDS ?c_NEAR ?c_MOST_INPUTS ?g_NUMBERS ?g_ROWS ?k_Reader ?k_Machine ?k_Not ?h_moved ?h_is_beyond ?h_holds ?h_all_hold ?h_chosen ?h_branch_moved ?h_flip ?h_flip_of ?h_flips_of_choice ?h_flips_of_far ?h_step_moved ?h_flips ?h_next_branches ?h_begins_twice ?h_pattern_at ?h_follow ?h_sources_of ?h_circle_of ?h_common_multiple ?h_asks_remainder ?h_period ?h_further ?h_beginnings ?h_first_stop ?h_stop_time ?h_often ?h_one_leap ?h_leap_loop ?h_leap_piece ?h_leap_program ?h_run_loop ?h_run_piece ?h_run_program ?h_longer ?h_box ?h_same ?h_first_of ?h_apart ?h_ends ?h_longest ?h_never ?h_counts ?h_read_given ?h_read_move ?h_read_test ?h_read_branch ?h_read_piece ?h_read_program ?h_which_refused ?h_piece_refused ?h_many_refused ?h_values_refused ?h_counters_refused ?h_box_size ?h_box_refused ?h_told ?h_leaps_told ?h_run_answer ?h_piece_answer ?h_same_answer ?h_apart_answer ?h_ends_answer ?h_box_answer ?h_row_end ?h_answers
    (case n_len => as_aux_lemma => k_is)
    (case n_range => as_aux_lemma => k_is)
    (case n_enumerate => as_aux_lemma => k_is)
    (case n_sorted => as_aux_lemma => k_is)
    (case n_set => as_aux_lemma => k_is)
    (case c_FAR => as_aux_lemma => refine' Lp.hasInt_mk ?a; (case a => k_is))
    (case c_AHEAD => as_aux_lemma => refine' Lp.hasInt_mk ?a; (case a => k_is))
    (case c_SETTLED => as_aux_lemma => refine' Lp.hasInt_mk ?a; (case a => k_is))
    (case c_MOST_LEAPS => as_aux_lemma => refine' Lp.hasInt_mk ?a; (case a => k_is))
    (case c_MOST_ROUNDS => as_aux_lemma => refine' Lp.hasInt_mk ?a; (case a => k_is))
    (case c_NEAR => as_aux_lemma => refine' Lp.hasInt_mk ?a; (case a => k_is))
    (case c_MOST_INPUTS => as_aux_lemma => refine' Lp.hasInt_mk ?a; (case a => k_is))
    (case g_NUMBERS => as_aux_lemma => refine' Lp.hasTup_mk ?h ?l; (case h => k_is); (case l => k_is))
    (case g_ROWS => as_aux_lemma => refine' Lp.hasTup_mk ?h ?l; (case h => k_is); (case l => k_is))
    (case k_Reader => as_aux_lemma => refine' Lp.hasReader_mk ?c ?n1 ?n2 ?m1 ?m2 ?m3; (case c => (refine' Lp.clsAt_mk ?a ?pg ?hd ?po ?sa ?mk ?kc; (case a => k_is); (case pg => k_is); (case hd => k_is); (case po => k_is); (case sa => k_is); (case mk => k_is); (case kc => k_is))); (case n1 => k_is); (case n2 => k_is); (case m1 => (refine' Lp.hasM_mk ?a ?i ?l ?c ?k; (case a => k_is); (case i => k_is); (case l => k_is); (case c => k_is); (case k => k_is))); (case m2 => (refine' Lp.hasM_mk ?a ?i ?l ?c ?k; (case a => k_is); (case i => k_is); (case l => k_is); (case c => k_is); (case k => k_is))); (case m3 => (refine' Lp.hasM_mk ?a ?i ?l ?c ?k; (case a => k_is); (case i => k_is); (case l => k_is); (case c => k_is); (case k => k_is))))
    (case k_Machine => as_aux_lemma => refine' Lp.hasMachine_mk ?c ?n1 ?m1 ?m2 ?m3; (case c => (refine' Lp.clsAt_mk ?a ?pg ?hd ?po ?sa ?mk ?kc; (case a => k_is); (case pg => k_is); (case hd => k_is); (case po => k_is); (case sa => k_is); (case mk => k_is); (case kc => k_is))); (case n1 => k_is); (case m1 => (refine' Lp.hasM_mk ?a ?i ?l ?c ?k; (case a => k_is); (case i => k_is); (case l => k_is); (case c => k_is); (case k => k_is))); (case m2 => (refine' Lp.hasM_mk ?a ?i ?l ?c ?k; (case a => k_is); (case i => k_is); (case l => k_is); (case c => k_is); (case k => k_is))); (case m3 => (refine' Lp.hasM_mk ?a ?i ?l ?c ?k; (case a => k_is); (case i => k_is); (case l => k_is); (case c => k_is); (case k => k_is))))
    (case k_Not => as_aux_lemma => refine' Lp.hasNot_mk ?a ?x ?k ?b ?t ?i ?s; (case a => k_is); (case x => k_exc); (case k => k_is); (case b => k_is); (case t => k_is); (case i => k_is); (case s => first | rfl | k_is))
    (case h_moved => as_aux_lemma => (refine' Lp.has_mk ?a ?l ?c ?k; (case a => k_is); (case l => k_is); (case c => k_is); (case k => k_is)))
    (case h_is_beyond => as_aux_lemma => (refine' Lp.has_mk ?a ?l ?c ?k; (case a => k_is); (case l => k_is); (case c => k_is); (case k => k_is)))
    (case h_holds => as_aux_lemma => (refine' Lp.has_mk ?a ?l ?c ?k; (case a => k_is); (case l => k_is); (case c => k_is); (case k => k_is)))
    (case h_all_hold => as_aux_lemma => (refine' Lp.has_mk ?a ?l ?c ?k; (case a => k_is); (case l => k_is); (case c => k_is); (case k => k_is)))
    (case h_chosen => as_aux_lemma => (refine' Lp.has_mk ?a ?l ?c ?k; (case a => k_is); (case l => k_is); (case c => k_is); (case k => k_is)))
    (case h_branch_moved => as_aux_lemma => (refine' Lp.has_mk ?a ?l ?c ?k; (case a => k_is); (case l => k_is); (case c => k_is); (case k => k_is)))
    (case h_flip => as_aux_lemma => (refine' Lp.has_mk ?a ?l ?c ?k; (case a => k_is); (case l => k_is); (case c => k_is); (case k => k_is)))
    (case h_flip_of => as_aux_lemma => (refine' Lp.has_mk ?a ?l ?c ?k; (case a => k_is); (case l => k_is); (case c => k_is); (case k => k_is)))
    (case h_flips_of_choice => as_aux_lemma => (refine' Lp.has_mk ?a ?l ?c ?k; (case a => k_is); (case l => k_is); (case c => k_is); (case k => k_is)))
    (case h_flips_of_far => as_aux_lemma => (refine' Lp.has_mk ?a ?l ?c ?k; (case a => k_is); (case l => k_is); (case c => k_is); (case k => k_is)))
    (case h_step_moved => as_aux_lemma => (refine' Lp.has_mk ?a ?l ?c ?k; (case a => k_is); (case l => k_is); (case c => k_is); (case k => k_is)))
    (case h_flips => as_aux_lemma => (refine' Lp.has_mk ?a ?l ?c ?k; (case a => k_is); (case l => k_is); (case c => k_is); (case k => k_is)))
    (case h_next_branches => as_aux_lemma => (refine' Lp.has_mk ?a ?l ?c ?k; (case a => k_is); (case l => k_is); (case c => k_is); (case k => k_is)))
    (case h_begins_twice => as_aux_lemma => (refine' Lp.has_mk ?a ?l ?c ?k; (case a => k_is); (case l => k_is); (case c => k_is); (case k => k_is)))
    (case h_pattern_at => as_aux_lemma => (refine' Lp.has_mk ?a ?l ?c ?k; (case a => k_is); (case l => k_is); (case c => k_is); (case k => k_is)))
    (case h_follow => as_aux_lemma => (refine' Lp.has_mk ?a ?l ?c ?k; (case a => k_is); (case l => k_is); (case c => k_is); (case k => k_is)))
    (case h_sources_of => as_aux_lemma => (refine' Lp.has_mk ?a ?l ?c ?k; (case a => k_is); (case l => k_is); (case c => k_is); (case k => k_is)))
    (case h_circle_of => as_aux_lemma => (refine' Lp.has_mk ?a ?l ?c ?k; (case a => k_is); (case l => k_is); (case c => k_is); (case k => k_is)))
    (case h_common_multiple => as_aux_lemma => (refine' Lp.has_mk ?a ?l ?c ?k; (case a => k_is); (case l => k_is); (case c => k_is); (case k => k_is)))
    (case h_asks_remainder => as_aux_lemma => (refine' Lp.has_mk ?a ?l ?c ?k; (case a => k_is); (case l => k_is); (case c => k_is); (case k => k_is)))
    (case h_period => as_aux_lemma => (refine' Lp.has_mk ?a ?l ?c ?k; (case a => k_is); (case l => k_is); (case c => k_is); (case k => k_is)))
    (case h_further => as_aux_lemma => (refine' Lp.has_mk ?a ?l ?c ?k; (case a => k_is); (case l => k_is); (case c => k_is); (case k => k_is)))
    (case h_beginnings => as_aux_lemma => (refine' Lp.has_mk ?a ?l ?c ?k; (case a => k_is); (case l => k_is); (case c => k_is); (case k => k_is)))
    (case h_first_stop => as_aux_lemma => (refine' Lp.has_mk ?a ?l ?c ?k; (case a => k_is); (case l => k_is); (case c => k_is); (case k => k_is)))
    (case h_stop_time => as_aux_lemma => (refine' Lp.has_mk ?a ?l ?c ?k; (case a => k_is); (case l => k_is); (case c => k_is); (case k => k_is)))
    (case h_often => as_aux_lemma => (refine' Lp.has_mk ?a ?l ?c ?k; (case a => k_is); (case l => k_is); (case c => k_is); (case k => k_is)))
    (case h_one_leap => as_aux_lemma => (refine' Lp.has_mk ?a ?l ?c ?k; (case a => k_is); (case l => k_is); (case c => k_is); (case k => k_is)))
    (case h_leap_loop => as_aux_lemma => (refine' Lp.has_mk ?a ?l ?c ?k; (case a => k_is); (case l => k_is); (case c => k_is); (case k => k_is)))
    (case h_leap_piece => as_aux_lemma => (refine' Lp.has_mk ?a ?l ?c ?k; (case a => k_is); (case l => k_is); (case c => k_is); (case k => k_is)))
    (case h_leap_program => as_aux_lemma => (refine' Lp.has_mk ?a ?l ?c ?k; (case a => k_is); (case l => k_is); (case c => k_is); (case k => k_is)))
    (case h_run_loop => as_aux_lemma => (refine' Lp.has_mk ?a ?l ?c ?k; (case a => k_is); (case l => k_is); (case c => k_is); (case k => k_is)))
    (case h_run_piece => as_aux_lemma => (refine' Lp.has_mk ?a ?l ?c ?k; (case a => k_is); (case l => k_is); (case c => k_is); (case k => k_is)))
    (case h_run_program => as_aux_lemma => (refine' Lp.has_mk ?a ?l ?c ?k; (case a => k_is); (case l => k_is); (case c => k_is); (case k => k_is)))
    (case h_longer => as_aux_lemma => (refine' Lp.has_mk ?a ?l ?c ?k; (case a => k_is); (case l => k_is); (case c => k_is); (case k => k_is)))
    (case h_box => as_aux_lemma => (refine' Lp.has_mk ?a ?l ?c ?k; (case a => k_is); (case l => k_is); (case c => k_is); (case k => k_is)))
    (case h_same => as_aux_lemma => (refine' Lp.has_mk ?a ?l ?c ?k; (case a => k_is); (case l => k_is); (case c => k_is); (case k => k_is)))
    (case h_first_of => as_aux_lemma => (refine' Lp.has_mk ?a ?l ?c ?k; (case a => k_is); (case l => k_is); (case c => k_is); (case k => k_is)))
    (case h_apart => as_aux_lemma => (refine' Lp.has_mk ?a ?l ?c ?k; (case a => k_is); (case l => k_is); (case c => k_is); (case k => k_is)))
    (case h_ends => as_aux_lemma => (refine' Lp.has_mk ?a ?l ?c ?k; (case a => k_is); (case l => k_is); (case c => k_is); (case k => k_is)))
    (case h_longest => as_aux_lemma => (refine' Lp.has_mk ?a ?l ?c ?k; (case a => k_is); (case l => k_is); (case c => k_is); (case k => k_is)))
    (case h_never => as_aux_lemma => (refine' Lp.has_mk ?a ?l ?c ?k; (case a => k_is); (case l => k_is); (case c => k_is); (case k => k_is)))
    (case h_counts => as_aux_lemma => (refine' Lp.has_mk ?a ?l ?c ?k; (case a => k_is); (case l => k_is); (case c => k_is); (case k => k_is)))
    (case h_read_given => as_aux_lemma => (refine' Lp.has_mk ?a ?l ?c ?k; (case a => k_is); (case l => k_is); (case c => k_is); (case k => k_is)))
    (case h_read_move => as_aux_lemma => (refine' Lp.has_mk ?a ?l ?c ?k; (case a => k_is); (case l => k_is); (case c => k_is); (case k => k_is)))
    (case h_read_test => as_aux_lemma => (refine' Lp.has_mk ?a ?l ?c ?k; (case a => k_is); (case l => k_is); (case c => k_is); (case k => k_is)))
    (case h_read_branch => as_aux_lemma => (refine' Lp.has_mk ?a ?l ?c ?k; (case a => k_is); (case l => k_is); (case c => k_is); (case k => k_is)))
    (case h_read_piece => as_aux_lemma => (refine' Lp.has_mk ?a ?l ?c ?k; (case a => k_is); (case l => k_is); (case c => k_is); (case k => k_is)))
    (case h_read_program => as_aux_lemma => (refine' Lp.has_mk ?a ?l ?c ?k; (case a => k_is); (case l => k_is); (case c => k_is); (case k => k_is)))
    (case h_which_refused => as_aux_lemma => (refine' Lp.has_mk ?a ?l ?c ?k; (case a => k_is); (case l => k_is); (case c => k_is); (case k => k_is)))
    (case h_piece_refused => as_aux_lemma => (refine' Lp.has_mk ?a ?l ?c ?k; (case a => k_is); (case l => k_is); (case c => k_is); (case k => k_is)))
    (case h_many_refused => as_aux_lemma => (refine' Lp.has_mk ?a ?l ?c ?k; (case a => k_is); (case l => k_is); (case c => k_is); (case k => k_is)))
    (case h_values_refused => as_aux_lemma => (refine' Lp.has_mk ?a ?l ?c ?k; (case a => k_is); (case l => k_is); (case c => k_is); (case k => k_is)))
    (case h_counters_refused => as_aux_lemma => (refine' Lp.has_mk ?a ?l ?c ?k; (case a => k_is); (case l => k_is); (case c => k_is); (case k => k_is)))
    (case h_box_size => as_aux_lemma => (refine' Lp.has_mk ?a ?l ?c ?k; (case a => k_is); (case l => k_is); (case c => k_is); (case k => k_is)))
    (case h_box_refused => as_aux_lemma => (refine' Lp.has_mk ?a ?l ?c ?k; (case a => k_is); (case l => k_is); (case c => k_is); (case k => k_is)))
    (case h_told => as_aux_lemma => (refine' Lp.has_mk ?a ?l ?c ?k; (case a => k_is); (case l => k_is); (case c => k_is); (case k => k_is)))
    (case h_leaps_told => as_aux_lemma => (refine' Lp.has_mk ?a ?l ?c ?k; (case a => k_is); (case l => k_is); (case c => k_is); (case k => k_is)))
    (case h_run_answer => as_aux_lemma => (refine' Lp.has_mk ?a ?l ?c ?k; (case a => k_is); (case l => k_is); (case c => k_is); (case k => k_is)))
    (case h_piece_answer => as_aux_lemma => (refine' Lp.has_mk ?a ?l ?c ?k; (case a => k_is); (case l => k_is); (case c => k_is); (case k => k_is)))
    (case h_same_answer => as_aux_lemma => (refine' Lp.has_mk ?a ?l ?c ?k; (case a => k_is); (case l => k_is); (case c => k_is); (case k => k_is)))
    (case h_apart_answer => as_aux_lemma => (refine' Lp.has_mk ?a ?l ?c ?k; (case a => k_is); (case l => k_is); (case c => k_is); (case k => k_is)))
    (case h_ends_answer => as_aux_lemma => (refine' Lp.has_mk ?a ?l ?c ?k; (case a => k_is); (case l => k_is); (case c => k_is); (case k => k_is)))
    (case h_box_answer => as_aux_lemma => (refine' Lp.has_mk ?a ?l ?c ?k; (case a => k_is); (case l => k_is); (case c => k_is); (case k => k_is)))
    (case h_row_end => as_aux_lemma => (refine' Lp.has_mk ?a ?l ?c ?k; (case a => k_is); (case l => k_is); (case c => k_is); (case k => k_is)))
    (case h_answers => as_aux_lemma => (refine' Lp.has_mk ?a ?l ?c ?k; (case a => k_is); (case l => k_is); (case c => k_is); (case k => k_is)))
  case S => as_aux_lemma =>
    intro K H xs a hO hwi hask hx
    cases hx with
    | cons h1 h2 =>
      cases h2
      cases h1 with
      | lst hs ha =>
        have e := L2.ints_dw a.1 _ ha
        subst e
        exact ⟨_, a.1, rfl, hs, hask, fun H' p hp => .lst (L2.SqL.of hp) (L2.dw_ints _)⟩
#print axioms PySem.Challenge.cw_leaptprograms_s01_answers_holds
