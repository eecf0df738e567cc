import PyProof.Rows.All
import Wide.All
import OpenK.AllK
import Wide.FinOn
import HandS.Iter
import HandS.Walk
import HandS.Text
import KE.GoesEnum
import KE.GoesMore
import PyProof.Rows.SortShellAny
import HandS.List
import PyProof.ReprRoads
import PyProof.ReprLen
import HandS.FStrTup
import HandS.Set
import HandS.Strs
import HandS.SetFor
import HandS.ForMost
import HandS.IsInst
import HandS.FStr
import HandS.Flow
import HandS.Defaults
import PyProof.Rows.SortWalkRead
import HandS.Ends
import HandS.WordsDict
import HandS.RaiseMore
import HandS.More
import PySem.Challenge.RW_everyhalf_k15_whole_trees_listed
set_option Elab.async false
set_option linter.all false
set_option maxRecDepth 100000
set_option maxHeartbeats 4000000
namespace K15
/-! The mathematics: words as lists of signs (true is 1), what the defs reckon, and what the kernel reckons of them. -/
abbrev W := List Bool
/-- from depth d on: at which place a 0 first closes -/
def scan : Nat → W → Option Nat
  | _, [] => none
  | d, true :: r => (scan (d + 1) r).map (· + 1)
  | 0, false :: _ => none
  | 1, false :: _ => some 0
  | d + 2, false :: r => (scan (d + 1) r).map (· + 1)
/-- the sign that closes becomes a 1 -/
def flip : Nat → W → Option W
  | _, [] => none
  | d, true :: r => (flip (d + 1) r).map (true :: ·)
  | 0, false :: _ => none
  | 1, false :: r => some (true :: r)
  | d + 2, false :: r => (flip (d + 1) r).map (false :: ·)
/-- turned: u 1 v 0 of 1 u 0 v -/
def turnO : W → Option W
  | true :: r => (flip 1 r).map (· ++ [false])
  | _ => none
theorem flip_scan : ∀ (r : W) (d : Nat) (l : W), flip d r = some l → ∃ k, scan d r = some k ∧ k < r.length ∧ l = r.take k ++ true :: r.drop (k + 1)
  | [], _, _, h => by simp [flip] at h
  | true :: r, d, l, h => by
    simp only [flip, Option.map_eq_some_iff] at h
    obtain ⟨l1, h1, rfl⟩ := h
    obtain ⟨k, e1, e2, rfl⟩ := flip_scan r (d + 1) l1 h1
    exact ⟨k + 1, by simp [scan, e1], by simp; omega, by simp⟩
  | false :: r, 0, l, h => by simp [flip] at h
  | false :: r, 1, l, h => by
    simp only [flip, Option.some.injEq] at h
    subst h
    exact ⟨0, rfl, by simp, by simp⟩
  | false :: r, d + 2, l, h => by
    simp only [flip, Option.map_eq_some_iff] at h
    obtain ⟨l1, h1, rfl⟩ := h
    obtain ⟨k, e1, e2, rfl⟩ := flip_scan r (d + 1) l1 h1
    exact ⟨k + 1, by simp [scan, e1], by simp; omega, by simp⟩
theorem turn_scan {w l : W} (h : turnO w = some l) : ∃ k r, w = true :: r ∧ scan 1 r = some k ∧ k < r.length ∧ l = r.take k ++ [true] ++ r.drop (k + 1) ++ [false] := by
  cases w with
  | nil => simp [turnO] at h
  | cons b r =>
    cases b with
    | false => simp [turnO] at h
    | true =>
      simp only [turnO, Option.map_eq_some_iff] at h
      obtain ⟨l1, h1, rfl⟩ := h
      obtain ⟨k, e1, e2, rfl⟩ := flip_scan r 1 l1 h1
      exact ⟨k, r, rfl, e1, e2, by simp⟩
theorem turn_len {w l : W} (h : turnO w = some l) : l.length = w.length := by
  obtain ⟨k, r, rfl, _, hk, rfl⟩ := turn_scan h
  simp
  omega
def eqW : W → W → Bool
  | [], [] => true
  | true :: a, true :: b => eqW a b
  | false :: a, false :: b => eqW a b
  | _, _ => false
theorem eqW_iff : ∀ a b : W, eqW a b = true ↔ a = b
  | [], [] => by simp [eqW]
  | [], b :: r => by cases b <;> simp [eqW]
  | b :: r, [] => by cases b <;> simp [eqW]
  | true :: a, true :: b => by simp [eqW, eqW_iff a b]
  | false :: a, false :: b => by simp [eqW, eqW_iff a b]
  | true :: a, false :: b => by simp [eqW]
  | false :: a, true :: b => by simp [eqW]
/-- from l on the turns that are not w again -/
def turnsO (w : W) : Nat → W → Option (List W)
  | 0, _ => none
  | f + 1, l => bif eqW l w then some [] else
    match turnO l with
    | none => none
    | some l1 => match turnsO w f l1 with
      | none => none
      | some ts => some (l :: ts)
/-- a word and its turns -/
def turnsOf (w : W) : Option (List W) := match turnO w with
  | none => none
  | some l => match turnsO w 40 l with
    | none => none
    | some ts => some (w :: ts)
theorem turnsO_len (w : W) : ∀ (f : Nat) (l : W) (ts : List W), turnsO w f l = some ts → ts.length ≤ f ∧ (l.length = w.length → ∀ t ∈ ts, t.length = w.length)
  | 0, l, ts, h => by simp [turnsO] at h
  | f + 1, l, ts, h => by
    unfold turnsO at h
    cases he : eqW l w with
    | true =>
      rw [he] at h
      simp at h
      subst h
      simp
    | false =>
      rw [he] at h
      simp only [cond_false] at h
      cases ht : turnO l with
      | none => simp [ht] at h
      | some l1 =>
        simp only [ht] at h
        cases hr : turnsO w f l1 with
        | none => simp [hr] at h
        | some t1 =>
          simp only [hr, Option.some.injEq] at h
          subst h
          obtain ⟨i1, i2⟩ := turnsO_len w f l1 t1 hr
          refine ⟨by simp; omega, fun hl t hm => ?_⟩
          rcases List.mem_cons.mp hm with e | e
          · exact e ▸ hl
          · exact i2 ((turn_len ht).trans hl) t e
theorem turnsOf_spec {w : W} {ts : List W} (h : turnsOf w = some ts) : ∃ l rest, turnO w = some l ∧ turnsO w 40 l = some rest ∧ ts = w :: rest := by
  unfold turnsOf at h
  cases ht : turnO w with
  | none => simp [ht] at h
  | some l =>
    simp only [ht] at h
    cases hr : turnsO w 40 l with
    | none => simp [hr] at h
    | some rest =>
      simp only [hr, Option.some.injEq] at h
      exact ⟨l, rest, rfl, hr, h.symm⟩
theorem turnsOf_len {w : W} {ts : List W} (h : turnsOf w = some ts) : ts.length ≤ 41 ∧ 0 < ts.length ∧ ∀ t ∈ ts, t.length = w.length := by
  obtain ⟨l, rest, h1, h2, rfl⟩ := turnsOf_spec h
  obtain ⟨i1, i2⟩ := turnsO_len w 40 l rest h2
  refine ⟨by simp; omega, by simp, fun t hm => ?_⟩
  rcases List.mem_cons.mp hm with e | e
  · exact e ▸ rfl
  · exact i2 (turn_len h1) t e
/-- never below, and 0 at the end -/
def dyck : Nat → W → Bool
  | 0, [] => true
  | _ + 1, [] => false
  | d, true :: r => dyck (d + 1) r
  | 0, false :: _ => false
  | d + 1, false :: r => dyck d r
def isW (w : W) : Bool := Nat.ble 2 w.length && Nat.ble w.length 400 && dyck 0 w
/-! the next word -/
def rep0 : Nat → W
  | 0 => []
  | n + 1 => false :: rep0 n
def tens : Nat → W
  | 0 => []
  | n + 1 => true :: false :: tens n
theorem rep0_eq : ∀ n, rep0 n = List.replicate n false
  | 0 => rfl
  | n + 1 => by rw [rep0, rep0_eq n, List.replicate_succ]
theorem tens_eq : ∀ n, tens n = (List.replicate n [true, false]).flatten
  | 0 => rfl
  | n + 1 => by rw [tens, tens_eq n, List.replicate_succ]; rfl
theorem tens_len (n : Nat) : (tens n).length = 2 * n := by
  induction n with
  | zero => rfl
  | succ n ih => simp [tens, ih]; omega
def beh (ones : Nat) : Nat → Nat → W → Option W
  | _, _, [] => none
  | used, i, true :: r => (beh ones (used + 1) (i + 1) r).map (true :: ·)
  | used, i, false :: r => match beh ones used (i + 1) r with
    | some s => some (false :: s)
    | none => bif Nat.blt used ones then some (true :: (rep0 (2 * used + 1 - i) ++ tens (ones - used - 1))) else none
def behind (w : W) : Option W := beh (w.length / 2) 0 0 w
def wordsO : Nat → W → Option (List W)
  | 0, _ => none
  | f + 1, w => match behind w with
    | none => some [w]
    | some w1 => match wordsO f w1 with
      | none => none
      | some ws => some (w :: ws)
theorem wordsO_len : ∀ (f : Nat) (w : W) (ws : List W), wordsO f w = some ws → ws.length ≤ f
  | 0, w, ws, h => by simp [wordsO] at h
  | f + 1, w, ws, h => by
    unfold wordsO at h
    cases hb : behind w with
    | none =>
      simp only [hb, Option.some.injEq] at h
      subst h
      simp
    | some w1 =>
      simp only [hb] at h
      cases hr : wordsO f w1 with
      | none => simp [hr] at h
      | some r =>
        simp only [hr, Option.some.injEq] at h
        subst h
        have := wordsO_len f w1 r hr
        simp
        omega
/-! words by numbers, lots of words -/
def codeFrom : Nat → W → Nat
  | n, [] => n
  | n, true :: r => codeFrom (2 * n + 1) r
  | n, false :: r => codeFrom (2 * n) r
def code (w : W) : Nat := codeFrom 1 w
theorem codeFrom_eq : ∀ (w : W) (n : Nat), codeFrom n w = n * 2 ^ w.length + codeFrom 0 w
  | [], n => by simp [codeFrom]
  | true :: r, n => by
    simp only [codeFrom, List.length_cons]
    rw [codeFrom_eq r (2 * n + 1), codeFrom_eq r (2 * 0 + 1), Nat.pow_succ, Nat.add_mul]
    have : 2 * n * 2 ^ r.length = n * (2 ^ r.length * 2) := by rw [Nat.mul_comm 2 n, Nat.mul_assoc, Nat.mul_comm 2]
    omega
  | false :: r, n => by
    simp only [codeFrom, List.length_cons]
    rw [codeFrom_eq r (2 * n), Nat.pow_succ]
    have : 2 * n * 2 ^ r.length = n * (2 ^ r.length * 2) := by rw [Nat.mul_comm 2 n, Nat.mul_assoc, Nat.mul_comm 2]
    have e : 2 * 0 = 0 := rfl
    rw [e]
    omega
theorem codeFrom_lt : ∀ w : W, codeFrom 0 w < 2 ^ w.length
  | [] => by simp [codeFrom]
  | true :: r => by
    have := codeFrom_lt r
    simp only [codeFrom, List.length_cons]
    rw [codeFrom_eq r (2 * 0 + 1), Nat.pow_succ]
    omega
  | false :: r => by
    have := codeFrom_lt r
    simp only [codeFrom, List.length_cons]
    rw [Nat.pow_succ]
    have e : 2 * 0 = 0 := rfl
    rw [e]
    omega
theorem codeFrom_inj : ∀ a b : W, a.length = b.length → codeFrom 0 a = codeFrom 0 b → a = b
  | [], [], _, _ => rfl
  | [], _ :: _, h, _ => by simp at h
  | _ :: _, [], h, _ => by simp at h
  | x :: a, y :: b, h, e => by
    have hl : a.length = b.length := by simpa using h
    have ha := codeFrom_lt a
    have hb := codeFrom_lt b
    rw [hl] at ha
    cases x <;> cases y <;> simp only [codeFrom] at e
    · rw [codeFrom_inj a b hl e]
    · rw [codeFrom_eq b (2 * 0 + 1)] at e
      have e0 : 2 * 0 = 0 := rfl
      rw [e0] at e
      omega
    · rw [codeFrom_eq a (2 * 0 + 1), hl] at e
      have e0 : 2 * 0 = 0 := rfl
      rw [e0] at e
      omega
    · rw [codeFrom_eq a (2 * 0 + 1), codeFrom_eq b (2 * 0 + 1), hl] at e
      rw [codeFrom_inj a b hl (by omega)]
theorem pow_between {n a b x y : Nat} (ha : a < 2 ^ n) (h : 2 ^ n + a = 2 ^ b + x) (hx : x < 2 ^ b) : n = b := by
  rcases Nat.lt_trichotomy n b with c | c | c
  · have : 2 ^ (n + 1) ≤ 2 ^ b := Nat.pow_le_pow_right (by omega) c
    rw [Nat.pow_succ] at this
    omega
  · exact c
  · have : 2 ^ (b + 1) ≤ 2 ^ n := Nat.pow_le_pow_right (by omega) c
    rw [Nat.pow_succ] at this
    omega
theorem code_inj {a b : W} (h : code a = code b) : a = b := by
  unfold code at h
  rw [codeFrom_eq a 1, codeFrom_eq b 1] at h
  have ha := codeFrom_lt a
  have hb := codeFrom_lt b
  have hl : a.length = b.length := pow_between (y := 0) ha (by omega) hb
  rw [hl] at h
  exact codeFrom_inj a b hl (by omega)
def marks : Nat → List W → Nat
  | m, [] => m
  | m, w :: ws => marks (m ||| (1 <<< code w)) ws
theorem mark_bit (m : Nat) (u w : W) : (m ||| (1 <<< code u)).testBit (code w) = (m.testBit (code w) || decide (u = w)) := by
  rw [Nat.testBit_or, Nat.shiftLeft_eq, Nat.one_mul, Nat.testBit_two_pow]
  congr 1
  by_cases h : u = w
  · subst h
    simp
  · have : code u ≠ code w := fun e => h (code_inj e)
    simp [h, this]
/-- the names among words, each with its turns; m marks what was met -/
def treesB : List W → Nat → Option (List (W × List W))
  | [], _ => some []
  | w :: ws, m => bif m.testBit (code w) then treesB ws m else
    match turnsOf w with
    | none => none
    | some ts => match treesB ws (marks m ts) with
      | none => none
      | some L => some ((w, ts) :: L)
theorem treesB_mem : ∀ (ws : List W) (m : Nat) (L : List (W × List W)), treesB ws m = some L → ∀ p ∈ L, p.1 ∈ ws ∧ turnsOf p.1 = some p.2
  | [], m, L, h, p, hp => by
    simp only [treesB, Option.some.injEq] at h
    subst h
    simp at hp
  | w :: ws, m, L, h, p, hp => by
    unfold treesB at h
    cases hb : m.testBit (code w) with
    | true =>
      rw [hb] at h
      simp only [cond_true] at h
      obtain ⟨i1, i2⟩ := treesB_mem ws m L h p hp
      exact ⟨List.mem_cons_of_mem _ i1, i2⟩
    | false =>
      rw [hb] at h
      simp only [cond_false] at h
      cases ht : turnsOf w with
      | none => simp [ht] at h
      | some ts =>
        simp only [ht] at h
        cases hr : treesB ws (marks m ts) with
        | none => simp [hr] at h
        | some L1 =>
          simp only [hr, Option.some.injEq] at h
          subst h
          rcases List.mem_cons.mp hp with e | e
          · subst e
            exact ⟨List.mem_cons_self, ht⟩
          · obtain ⟨i1, i2⟩ := treesB_mem ws _ L1 hr p e
            exact ⟨List.mem_cons_of_mem _ i1, i2⟩
/-! the order -/
def ltW : W → W → Bool
  | [], [] => false
  | [], _ :: _ => true
  | _ :: _, [] => false
  | false :: _, true :: _ => true
  | true :: _, false :: _ => false
  | false :: a, false :: b => ltW a b
  | true :: a, true :: b => ltW a b
theorem ltW_irrefl : ∀ a : W, ltW a a = false
  | [] => rfl
  | true :: a => ltW_irrefl a
  | false :: a => ltW_irrefl a
theorem ltW_trans : ∀ a b c : W, ltW a b = true → ltW b c = true → ltW a c = true
  | [], [], _, h, _ => by simp [ltW] at h
  | _, _ :: _, [], _, h => by simp [ltW] at h
  | [], _ :: _, _ :: _, _, _ => rfl
  | _ :: _, [], _, h, _ => by simp [ltW] at h
  | x :: a, y :: b, z :: c, h1, h2 => by
    cases x <;> cases y <;> cases z <;> simp only [ltW] at h1 h2 ⊢ <;> first | exact ltW_trans a b c h1 h2 | (exact absurd h1 (by decide)) | (exact absurd h2 (by decide)) | rfl
theorem ltW_total : ∀ a b : W, ltW a b = true ∨ a = b ∨ ltW b a = true
  | [], [] => .inr (.inl rfl)
  | [], _ :: _ => .inl rfl
  | _ :: _, [] => .inr (.inr rfl)
  | x :: a, y :: b => by
    have ih := ltW_total a b
    cases x <;> cases y <;> simp only [ltW, List.cons.injEq, true_and, reduceCtorEq, false_and, false_or, or_false] <;> first | exact ih | simp
/-- ascending, no two alike -/
def upB : List W → Bool
  | [] => true
  | [_] => true
  | a :: b :: r => ltW a b && upB (b :: r)
theorem up_pair : ∀ l : List W, upB l = true → l.Pairwise (fun a b => ltW a b = true)
  | [], _ => .nil
  | [_], _ => List.pairwise_singleton ..
  | a :: b :: r, h => by
    simp only [upB, Bool.and_eq_true] at h
    have ih := up_pair (b :: r) h.2
    refine .cons (fun c hc => ?_) ih
    rcases List.mem_cons.mp hc with e | e
    · exact e ▸ h.1
    · exact ltW_trans a b c h.1 ((List.pairwise_cons.mp ih).1 c e)
theorem up_nodup {l : List W} (h : upB l = true) : l.Nodup := (up_pair l h).imp fun {a b} hab e => by
  subst e
  rw [ltW_irrefl] at hab
  cases hab
/-- m is the least of l -/
def leastB (m : W) (l : List W) : Bool := l.all fun y => !ltW y m
/-! what law_k15 puts together by itself -/
def rowOf (tab : List (List W)) (many : Nat) : List W :=
  ((List.range many).map fun part => ((tab.getD part []).map fun inner => (tab.getD (many - 1 - part) []).map fun beh => true :: inner ++ false :: beh).flatten).flatten
def tabOf : Nat → List (List W)
  | 0 => [[[]]]
  | n + 1 => tabOf n ++ [rowOf (tabOf n) (n + 1)]
theorem tabOf_len : ∀ n, (tabOf n).length = n + 1
  | 0 => rfl
  | n + 1 => by simp [tabOf, tabOf_len n]
def lawAll (n : Nat) : List W := (tabOf n).getD n []
def ins (x : Nat × W) : List (Nat × W) → List (Nat × W)
  | [] => [x]
  | y :: r => bif Nat.ble x.1 y.1 then x :: y :: r else y :: ins x r
def isort : List (Nat × W) → List (Nat × W)
  | [] => []
  | x :: r => ins x (isort r)
theorem ins_perm (x : Nat × W) : ∀ l, (ins x l).Perm (x :: l)
  | [] => .refl _
  | y :: r => by
    unfold ins
    cases Nat.ble x.1 y.1 with
    | true => exact .refl _
    | false => exact ((ins_perm x r).cons y).trans (.swap ..)
theorem isort_perm : ∀ l, (isort l).Perm l
  | [] => .refl _
  | x :: r => (ins_perm x (isort r)).trans ((isort_perm r).cons x)
def eqWs : List W → List W → Bool
  | [], [] => true
  | a :: l, b :: r => eqW a b && eqWs l r
  | _, _ => false
theorem eqWs_iff : ∀ a b : List W, eqWs a b = true ↔ a = b
  | [], [] => by simp [eqWs]
  | [], _ :: _ => by simp [eqWs]
  | _ :: _, [] => by simp [eqWs]
  | x :: a, y :: b => by simp [eqWs, eqW_iff, eqWs_iff a b]
theorem sorted_perm {l ws : List W} (h : eqWs ((isort (l.map fun w => (code w, w))).map (·.2)) ws = true) : ws.Perm l := by
  rw [← (eqWs_iff _ _).mp h]
  have := (isort_perm (l.map fun w => (code w, w))).map (·.2)
  rw [List.map_map] at this
  have e : ((fun x : Nat × W => x.2) ∘ fun w => (code w, w)) = id := rfl
  rw [e, List.map_id] at this
  exact this
/-! numbers -/
def lotsI (many : Int) : Nat → Int
  | 0 => 1
  | t + 1 => (lotsI many t * (many - (t : Int))).fdiv ((t : Int) + 1)
def lotsV (many some : Int) : Int := if some < 0 then 0 else lotsI many some.toNat
def waysV (ones zeros : Int) : Int := lotsV (ones + zeros) ones - lotsV (ones + zeros) (ones - 1)
def allInV (p : Int) : Int := waysV p p
def apartN (n : Nat) : Nat := ((List.range n).filter fun i => !decide (1 < Nat.gcd n (i + 1))).length
def placeSum (p : Nat) : Nat → Int
  | 0 => 0
  | k + 1 => if p % (k + 1) = 0 then placeSum p k + ((apartN (p / (k + 1)) : Nat) : Int) * lotsV (2 * ((k : Int) + 1)) ((k : Int) + 1) else placeSum p k
def placeV (p : Nat) : Int := (placeSum p p).fdiv (2 * (p : Int))
def tieV (p : Nat) : Int := if p % 2 = 0 then (allInV p).fdiv 2 else (allInV p + allInV ((p / 2 : Nat) : Int)).fdiv 2
def treesV (p : Nat) : Int := placeV p + tieV p - allInV p
/-! the kernel's reckonings -/
def sumLen : List (W × List W) → Nat
  | [] => 0
  | p :: L => p.2.length + sumLen L
/-- what is asked of the words of n pairs, n up to 7 -/
def goodL (n : Nat) (ws : List W) (L : List (W × List W)) : Bool :=
  eqWs ((isort ((lawAll n).map fun w => (code w, w))).map (·.2)) ws && upB ws && upB (L.map (·.1)) && Nat.beq (sumLen L) (lawAll n).length && decide (treesV n = (L.length : Int)) && Nat.ble L.length 60 && Nat.ble 1 L.length &&
    L.all fun p => leastB p.1 p.2 && p.2.all fun w => isW w && match turnsOf w with
      | none => false
      | some ts => ts.any (eqW p.1) && leastB p.1 ts
def good7 (n : Nat) : Bool := match wordsO 500 (tens n) with
  | none => false
  | some ws => match treesB ws 0 with
    | none => false
    | some L => goodL n ws L
def good9g (fu k : Nat) : Bool := match wordsO fu (tens k) with
  | none => false
  | some ws => match treesB ws 0 with
    | none => false
    | some L => upB (L.map (·.1)) && Nat.beq (sumLen L) 4862 && Nat.ble L.length 300 && Nat.ble 41 L.length && (ws.all fun w => Nat.ble w.length 100) && (L.take 40).all fun p => leastB p.1 p.2
def good9 : Bool := good9g 5000 9
def smallTab (n : Nat) : Bool := (tabOf n).all fun r => Nat.ble r.length 500 && r.all fun w => Nat.ble w.length 20
end K15
namespace K15
/-! what the kernel reckons -/
theorem k_good1 : good7 1 = true := by decide +kernel
theorem k_good2 : good7 2 = true := by decide +kernel
theorem k_good3 : good7 3 = true := by decide +kernel
theorem k_good4 : good7 4 = true := by decide +kernel
theorem k_good5 : good7 5 = true := by decide +kernel
theorem k_good6 : good7 6 = true := by decide +kernel
theorem k_good7 : good7 7 = true := by decide +kernel
theorem k_tab : smallTab 7 = true := by decide +kernel
end K15
namespace K15
theorem k_good9 : good9 = true := by decide +kernel
end K15
namespace K15
open PySem PySem.Spec PyProof.Rows L2
/-! enumerate of a text, sign by sign -/
/-- at turn i: a new pair of i and the i-th sign -/
def Iets (x : Str) : It where
  go := fun i _ => i < x.cps.size
  yld := fun i H v H' => ∃ (T : Addr) (c : Nat), v = .ref T ∧ H T = none ∧ H' = upd H T (.tup [.int (i : Nat), .str ⟨#[c]⟩]) ∧ x.cps[i]? = some c
  stop := fun i _ => x.cps.size ≤ i
abbrev etsSt (x : Str) (t : Tok) (e it : Addr) (i : Nat) (h : Heap) : Prop := i ≤ x.cps.size ∧ (∃ old, IsEnum h e it ((0 : Int) + (i : Int)) old) ∧ h.IsStrIter it (strIterType x) x t i
theorem turn_ets {P : Program} {w : World} {K : PySem.W.Frag} {elts : List Expr} {kk : Nat} {tpos : Pos} (x : Str) (t : Tok) (e it : Addr) (hne : e ≠ it) :
    Turn P w K (.Tuple elts kk tpos) (Iets x) [e, it] e (etsSt x t e it) where
  mem := by simp
  obj := fun i h st b hb => by
    obtain ⟨hle, ⟨old, he⟩, o, ho, hc, hd⟩ := st
    rcases (by simpa using hb : b = e ∨ b = it) with z | z
    · subst z
      exact ⟨_, he, fun v q => nomatch q⟩
    · subst z
      exact ⟨o, ho, fun v q => by rw [hd] at q; cases q⟩
  keep := fun i h h' st k => by
    obtain ⟨hle, ⟨old, he⟩, o, ho, hc, hd⟩ := st
    exact ⟨hle, ⟨old, k e (by simp) _ he⟩, o, k it (by simp) _ ho, hc, hd⟩
  item := by
    intro X hP hw hK hc i pins s σ H E I hf st hg
    subst hP hw hK
    have D := Draws.text (prog := X.prog) (w := X.w) (A := X.A.in1) (I.ok.hd hc) it x t
    have Wk := WalksT.enumFrom (0 : Int) D e hne (by simpa using hne) (by simp)
    refine Wk.item i s _ _ hg st.2 fun T vals h1 tk hP hT hTup hMid kk => ?_
    obtain ⟨t1, v1, ⟨c, u, hcx, rfl⟩, rfl⟩ := hP
    refine ⟨_, rfl, Wk.go elts _ tpos i T { s with heap := h1, toks := tk } _ _ hMid fun h2 st2 kk2 => ?_⟩
    obtain ⟨o, ho, hcl, n, hd⟩ := hTup
    have hTw : T ∉ [e, it] := Wk.apart i T _ hMid
    have ho2 : h2.get? T = some o := kk2 T o hTw ho
    have hn : H T = none := I.hok.fresh hT
    have e0 : (0 : Int) + (i : Int) = ((i : Nat) : Int) := by omega
    have new : ObjOk X.prog X.w (upd H T (.tup [.int (i : Nat), .str ⟨#[c]⟩])) h2 T (.tup [.int (i : Nat), .str ⟨#[c]⟩]) :=
      ⟨by show 2 ≤ sizeLine; decide, [.int ((0 : Int) + (i : Int)) t1, .str ⟨#[c]⟩ u], .cons ⟨t1, by rw [e0]⟩ (.cons ⟨u, rfl⟩ .nil), o, ho2, hcl, n, hd⟩
    have I1 := I.turnedNew (t' := tk) (ch := [e, it]) (h' := h2) (fun b ob hb q => kk2 b ob hb (kk b ob hb q)) hf hT new
    refine ⟨.ref T, _, I1, rfl, ⟨T, c, rfl, hn, rfl, hcx⟩, ⟨hg, st2⟩, fun b hb => ?_⟩
    have hbT : b ≠ T := fun z => hTw (z ▸ hb)
    rw [upd_ne hbT]
    exact (hf b hb).1
  done := by
    intro X hP hw hK hc i pins s σ H E I hf st hg
    subst hP hw hK
    have D := Draws.text (prog := X.prog) (w := X.w) (A := X.A.in1) (I.ok.hd hc) it x t
    have Wk := WalksT.enumFrom (0 : Int) D e hne (by simpa using hne) (by simp)
    have hi : i = x.cps.size := Nat.le_antisymm st.1 hg
    subst hi
    exact Wk.done s _ _ st.2 fun h1 tk kk => ⟨rfl, I.turnedL (t' := tk) (ch := [e, it]) kk hf⟩
  self := fun A i s Q E st h => by
    obtain ⟨_, ⟨old, he⟩, _⟩ := st
    exact wpAny_pyIter_enum he h
def iEts (ta : TA) : TI := fun σ H R => ta σ H fun vs H1 => ∃ x : Str, vs = [.str x] ∧ R (Iets x) H1
theorem pi_ets {X : Cx} {e : Expr} {ta : TA} {p pos tpos : Pos} {elts : List Expr} {kk : Nat} (hg : Gl X "enumerate") (hm : X.mg "enumerate" = none) (ha : PA X [e] ta) (hs : starEach [e] X.env = [(false, eval e X.env)] := by rfl) :
    PI X (.Tuple elts kk tpos) (.Call (.Name "enumerate" p) [e] [] pos) (iEts ta) := by
  refine ⟨fun pins s σ H R I h => ?_⟩
  refine Call_ (ld_blt I hg hm boot_enumerate (callWith_type1 (thn (ha.run pos pins s σ H _ I h) fun us s1 q1 => ?_) hs rfl))
  obtain ⟨vs, H1, I1, r1, x, ex, q⟩ := q1
  subst ex
  cases r1 with
  | cons r rr =>
    cases rr
    obtain ⟨t, rfl⟩ := r
    refine call_enumerate_str fun h1 he hit hsz hk => wpAny_pyIter_enum he ?_
    have I2 : Inv X pins σ H1 { s1 with heap := h1 } := I1.kept (t' := s1.toks) hk
    refine ⟨s1.heap.objs.size + 1, [s1.heap.objs.size + 1, s1.heap.objs.size], _, _, H1, rfl, I2, turn_ets x t (s1.heap.objs.size + 1) s1.heap.objs.size (Nat.succ_ne_self _), ⟨Nat.zero_le _, ⟨.none, he⟩, hit⟩, fun b hb => ?_, q⟩
    have hle : s1.heap.objs.size ≤ b := by
      rcases (by simpa using hb : b = s1.heap.objs.size + 1 ∨ b = s1.heap.objs.size) with z | z
      · exact z ▸ Nat.le_succ _
      · exact z ▸ Nat.le_refl _
    exact I1.fpOk hle (I1.hok.fresh hle)
theorem walk_ets {z : Str} : Walk (Iets z) z.cps.size (fun _ => True) (YPair (fun i => some (.int (i : Nat))) (fun i => (z.cps[i]?).map fun c => V.str ⟨#[c]⟩)) := by
  refine ⟨fun _ _ hi _ => hi, fun _ _ => Nat.le_refl _, fun i H v H' _ _ y => ?_⟩
  obtain ⟨T, c, h1, h2, h3, h4⟩ := y
  exact ⟨T, _, _, h1, h2, h3, rfl, by simp [h4]⟩
end K15
namespace K15
open PySem PySem.Spec PyProof.Rows L2
/-! sorted of texts of any number, a text so many times, the least of some texts -/
section
variable {X : Cx}
def rSortA (K : PySem.W.Frag) : List V → Hp → VK → Prop := fun vs H Q => ∃ (a : Addr) (xs : List Str), vs = [.ref a] ∧ SqL K H a (xs.map V.str) ∧
  ∀ (ys : List Str) (p : Addr), ys.Perm xs → sortedS ys = true → H p = none → Q (.ref p) (upd H p (.lst (ys.map V.str)))
theorem cr_sortA : CallR X (.builtin "sorted") (rSortA X.K) := by
  intro pins s σ H vs us Q I r h
  obtain ⟨a, xs, rfl, hs, q⟩ := h
  obtain ⟨its, rv, hl, hz⟩ := I.list hs
  rw [Vals.ref1 r]
  refine sorted_strsAny hl.isList rv.strs (by rw [← rv.length]; exact hz) fun out ys h1 h2 h3 => ?_
  obtain ⟨ep, he⟩ := sortedAll_at s.heap its out
  have hlen : (ys.map V.str).length ≤ sizeLine := by
    rw [List.length_map] at hz ⊢
    rw [h2.length_eq]
    exact hz
  have J := I.laid (a := s.heap.objs.size + 1) (o := .lst (ys.map V.str)) (t' := s.toks) (fun _ _ => sortedAll_old) (Nat.le_succ _) ⟨hlen, out.toList, ep, vals_of_strs h1, he⟩
  exact ⟨.ref _, _, J, rfl, q ys _ h2 h3 (I.hok.fresh (Nat.le_succ _))⟩
/-- x * k for a text x -/
def repS (x : Str) (k : Int) : Str := ⟨(List.replicate k.toNat x.cps.toList).flatten.toArray⟩
theorem foldl_app (l : List (Array Nat)) : ∀ a : Array Nat, (l.foldl (· ++ ·) a).toList = a.toList ++ (l.map Array.toList).flatten := by
  induction l with
  | nil => intro a; simp
  | cons x l ih => intro a; rw [List.foldl_cons, ih]; simp
theorem repS_eq (x : Str) (k : Int) : (⟨(List.replicate k.toNat x.cps).foldl (· ++ ·) #[]⟩ : Str) = repS x k := by
  unfold repS
  congr 1
  apply Array.toList_inj.mp
  rw [foldl_app]
  simp
theorem op_repT : OpR X (binaryOp .Mult) (fun x y H Q => ∃ (z : Str) (k : Int), x = .str z ∧ y = .int k ∧ -1000 ≤ k ∧ k ≤ 1000 ∧ z.length ≤ 1000 ∧ Q (.str (repS z k)) H) := by
  intro pins s σ H x y v u Q I rx ry h
  obtain ⟨z, k, rfl, rfl, h1, h2, h3, q⟩ := h
  obtain ⟨t, rfl⟩ := rx
  obtain ⟨t2, rfl⟩ := ry
  refine P.mul_str ?_ (fun hk _ hc => ?_) (fun hk _ => ?_) ?_
  · have a1 : ¬ k < -(2 ^ 63 : Int) := by omega
    have a2 : ¬ k ≥ 2 ^ 63 := by omega
    rw [decide_eq_false a1, decide_eq_false a2]
    rfl
  · have b1 : (9223372036854775807 : Int) / 1000 ≤ (2 ^ 63 - 1) / k := by
      have e : (2 ^ 63 - 1 : Int) = 9223372036854775807 := by decide
      rw [e]
      refine (Int.le_ediv_iff_mul_le (by omega)).mpr ?_
      have := Int.mul_le_mul_of_nonneg_left h2 (show (0 : Int) ≤ 9223372036854775807 / 1000 by decide)
      refine Int.le_trans this (by decide)
    have b2 : ((z.length : Nat) : Int) ≤ 1000 := by omega
    have b3 : (1000 : Int) ≤ 9223372036854775807 / 1000 := by decide
    omega
  · have c1 : z.length * k.toNat ≤ 1000 * 1000 := Nat.mul_le_mul h3 (by omega)
    unfold Builtin.Str.tooLong
    exact decide_eq_false (by rw [sizeLine_eq]; omega)
  · have ret : ∀ (w : Str) (n : Tok), w = repS z k → EP X pins σ Q (.str w n) { s with toks := s.toks + 1 } := fun w n e => ⟨.str _, H, I.tok _, ⟨n, rfl⟩, by rw [e]; exact q⟩
    have nil_of : ∀ n : Nat, z.length = 0 → repS z n = Str.empty := fun n hz => by
      have e : z.cps.toList = [] := List.eq_nil_of_length_eq_zero (by simpa [Str.length] using hz)
      unfold repS
      rw [e]
      simp
      rfl
    by_cases hk : k < 1
    · rw [if_pos hk]
      have e : repS z k = Str.empty := by
        have e0 : k.toNat = 0 := by omega
        unfold repS
        rw [e0] <;> rfl
      exact ⟨by decide, ret _ _ e.symm⟩
    · rw [if_neg hk]
      by_cases hz : (k == 1 || z.length == 0) = true
      · rw [if_pos hz]
        have e : z = repS z k := by
          rcases Bool.or_eq_true_iff.mp hz with e1 | e1
          · have e2 : k = 1 := by simpa using e1
            subst e2
            unfold repS
            simp
          · have e2 : z.length = 0 := by simpa using e1
            have e3 := nil_of k.toNat e2
            have e4 : ((k.toNat : Nat) : Int) = k := by omega
            rw [e4] at e3
            rw [e3]
            obtain ⟨c⟩ := z
            have : c = #[] := Array.eq_empty_of_size_eq_zero e2
            rw [this] <;> rfl
        exact ⟨.str _, H, I, ⟨t, rfl⟩, by rw [← e] at q; exact q⟩
      · rw [if_neg hz, repS_eq]
        refine ⟨?_, ret _ _ rfl⟩
        have e1 : (repS z k).length = k.toNat * z.length := by
          unfold repS Str.length
          simp
        have c1 : k.toNat * z.length ≤ 1000 * 1000 := Nat.mul_le_mul (by omega) h3
        rw [e1, sizeLine_eq]
        omega
end
/-! the least of some texts -/
abbrev cpl (x : Str) : List Nat := x.cps.toList
theorem best_lt (f : Nat → List Nat) : ∀ k, argBest (fun i j => decide (f i < f j)) k ≤ k ∧ ∀ j, j ≤ k → ¬ f j < f (argBest (fun i j => decide (f i < f j)) k)
  | 0 => ⟨Nat.le_refl _, fun j hj => by
    have e : j = 0 := by omega
    subst e
    exact List.lt_irrefl _⟩
  | k + 1 => by
    obtain ⟨i1, i2⟩ := best_lt f k
    by_cases hb : f (k + 1) < f (argBest (fun i j => decide (f i < f j)) k)
    · have e : argBest (fun i j => decide (f i < f j)) (k + 1) = k + 1 := by simp [argBest, hb]
      rw [e]
      refine ⟨Nat.le_refl _, fun j hj hl => ?_⟩
      rcases Nat.lt_or_ge k j with c | c
      · have e2 : j = k + 1 := by omega
        subst e2
        exact List.lt_irrefl _ hl
      · exact i2 j c (List.lt_trans hl hb)
    · have e : argBest (fun i j => decide (f i < f j)) (k + 1) = argBest (fun i j => decide (f i < f j)) k := by simp [argBest, hb]
      rw [e]
      refine ⟨Nat.le_succ_of_le i1, fun j hj hl => ?_⟩
      rcases Nat.lt_or_ge k j with c | c
      · have e2 : j = k + 1 := by omega
        subst e2
        exact hb hl
      · exact i2 j c hl
theorem cmp_strs {prog : Program} {w : World} {A : Around} {Pv : Nat → Value → Prop} (val : Nat → Str) (hv : ∀ i v, Pv i v → ∃ t, v = .str (val i) t) :
    CmpOf prog w A .Lt Pv (fun i j => decide (cpl (val i) < cpl (val j))) := fun i j vi vj s Q E hi hj h => by
  obtain ⟨t, rfl⟩ := hv i vi hi
  obtain ⟨u, rfl⟩ := hv j vj hj
  exact richCompare_gives (op := .Lt) (typeIs_str s _ t) (typeIs_str s _ u) F.slot_str_lt F.entry_str_lt (F.args_str_lt_2 _ _) (gives_str_lt _ _ t u) (fun x => nomatch x) h
section
variable {X : Cx}
def rLeastS (K : PySem.W.Frag) : List V → Hp → VK → Prop := fun vs H Q => ∃ (a : Addr) (xs : List Str), vs = [.ref a] ∧ SqL K H a (xs.map V.str) ∧ 0 < xs.length ∧
  ∀ m, m ∈ xs → (∀ y, y ∈ xs → ¬ cpl y < cpl m) → Q (.str m) H
theorem cr_leastS (hc : X.calm = true) : CallR X (.builtin "min") (rLeastS X.K) := by
  intro pins s σ H vs us Q I r h
  obtain ⟨a, xs, rfl, hs, hne, q⟩ := h
  obtain ⟨its, rv, hl, hz⟩ := I.list hs
  rw [Vals.ref1 r]
  have hli := hl.isList
  have hlt : a < s.heap.objs.size := by
    obtain ⟨_, e, _⟩ := hli
    exact Heap.lt_size e
  have hlen := rv.length
  rw [List.length_map] at hlen
  have val : ∀ (i : Nat) (v : Value), its.toArray[i]? = some v → ∃ t, v = Value.str (xs.getD i Str.empty) t := fun i v hv => by
    have hv2 : its[i]? = some v := by simpa using hv
    have hi : i < xs.length := by
      rw [hlen]
      exact (List.getElem?_eq_some_iff.mp hv2).1
    obtain ⟨u, hu, ru⟩ := rv.get (i := i) (x := .str xs[i]) (by simp [hi])
    rw [hv2] at hu
    cases hu
    obtain ⟨t, e⟩ := ru
    exact ⟨t, by rw [e]; simp [List.getD, hi]⟩
  refine call_min_walk (wpAny_pyIter_list hli ?_)
  have hd : (X.A.in1).handled = none := I.ok.hd hc
  refine ⟨_, _, _, _, _, _, _, rfl, Walks.list (A := X.A.in1) hd s.heap.objs.size a (Nat.ne_of_lt hlt) its.toArray, ⟨⟨_, Heap.get?_push_size _ rfl, rfl, rfl⟩, hli.push _⟩, fun b hb => ?_, by simpa [← hlen] using hne,
    cmp_strs (fun i => xs.getD i Str.empty) val, fun v h1 tk hP hk => ?_⟩
  · show b < (s.heap.push _).objs.size
    rw [Heap.size_push]
    rcases (by simpa using hb : b = s.heap.objs.size ∨ b = a) with z | z
    · exact z ▸ Nat.lt_succ_self _
    · exact z ▸ Nat.lt_succ_of_lt hlt
  · obtain ⟨t, rfl⟩ := val _ _ hP
    obtain ⟨b1, b2⟩ := best_lt (fun i => cpl (xs.getD i Str.empty)) (its.toArray.size - 1)
    have sz : its.toArray.size = xs.length := by simp [hlen]
    have J : Inv X pins σ H { s with heap := h1, toks := tk } := I.kept fun b o e => by
      refine hk b o (fun hm => ?_) (Heap.get?_push_of_some _ e)
      have e1 : b = s.heap.objs.size := by simpa using hm
      exact absurd (Heap.lt_size e) (by rw [e1]; exact Nat.lt_irrefl _)
    refine ⟨.str _, H, J, ⟨t, rfl⟩, q _ ?_ fun y hy => ?_⟩
    · rw [List.getD_eq_getElem?_getD, List.getElem?_eq_getElem (by omega)]
      exact List.getElem_mem _
    · obtain ⟨j, hj, rfl⟩ := List.mem_iff_getElem.mp hy
      have := b2 j (by omega)
      have e : xs.getD j Str.empty = xs[j] := by simp [List.getD, hj]
      rw [e] at this
      exact this
end
end K15
namespace K15
open PySem PySem.Spec PyProof.Rows L2
/-! repr of a list of two tuples of texts -/
def strData (l : List Str) : List PyData := l.map PyData.str
def twoData (a b : List Str) : PyData := .list [.tuple (strData a), .tuple (strData b)]
theorem reads_strs {h : Heap} : ∀ {l : List Str} {its : List Value}, Vals (l.map V.str) its → ReadsAll h its (strData l) []
  | [], _, .nil => .nil
  | _ :: _, _, .cons r t => by
    obtain ⟨k, rfl⟩ := r
    exact .cons (.str _ k) (reads_strs t)
theorem shown_strs : ∀ l : List Str, PyData.shownAll (strData l) = l.map reprText
  | [] => rfl
  | x :: l => by
    show reprText x :: PyData.shownAll (strData l) = _
    rw [shown_strs l] <;> rfl
theorem showable_strs : ∀ l : List Str, PyData.showableAll (strData l) = true
  | [] => rfl
  | x :: l => by
    show (true && PyData.showableAll (strData l)) = true
    rw [showable_strs l] <;> rfl
theorem nodict_strs : ∀ l : List Str, PyData.hasDictAll (strData l) = false
  | [] => rfl
  | x :: l => by
    show (false || PyData.hasDictAll (strData l)) = false
    rw [nodict_strs l] <;> rfl
theorem depth_strs : ∀ l : List Str, PyData.depthAll (strData l) = 0
  | [] => rfl
  | x :: l => by
    show max 0 (PyData.depthAll (strData l)) = 0
    rw [depth_strs l] <;> rfl
section
variable {X : Cx}
def rReprTwo (K : PySem.W.Frag) : List V → Hp → VK → Prop := fun vs H Q => ∃ (a t u : Addr) (xs ys : List Str), vs = [.ref a] ∧ SqL K H a [.ref t, .ref u] ∧ SqT K H t (xs.map V.str) ∧ SqT K H u (ys.map V.str) ∧
  (∀ y ∈ xs, ∀ c ∈ y.cps.toList, c < 16 ^ 8) ∧ (∀ y ∈ ys, ∀ c ∈ y.cps.toList, c < 16 ^ 8) ∧ fmtCost xs + fmtCost ys + 100 ≤ sizeLine ∧ Q (.str (twoData xs ys).shown) H
theorem call_reprTwo (hg : X.A.guards = some []) (hu : X.A.units + 64 < cLine) : CallR X (.builtin "repr") (rReprTwo X.K) := by
  intro pins s σ H vs us Q I r h
  obtain ⟨a, t, u, xs, ys, rfl, ha, ht, hv, cx, cy, hz, q⟩ := h
  rw [Vals.ref1 r]
  obtain ⟨its, rv, pl, _⟩ := I.list ha
  obtain ⟨its1, rv1, ⟨o1, g1, c1, n1, d1⟩, _⟩ := I.tuple ht
  obtain ⟨its2, rv2, ⟨o2, g2, c2, n2, d2⟩, _⟩ := I.tuple hv
  obtain ⟨o, n, g, c, _, d⟩ := pl
  have e : its = [.ref t, .ref u] := by
    cases rv with
    | cons r1 rv => cases rv with
      | cons r2 rv =>
        cases rv
        cases r1
        cases r2
        rfl
  subst e
  have R : Reads s.heap (.ref a) (twoData xs ys) (a :: ([] ++ ([] ++ []))) :=
    .list g c d (.cons (.tuple g1 c1 d1 (reads_strs (by simpa using rv1))) (.cons (.tuple g2 c2 d2 (reads_strs (by simpa using rv2))) .nil))
  have s1 : (twoData xs ys).showable = true := by
    show (PyData.showableAll (strData xs) && (PyData.showableAll (strData ys) && true)) = true
    rw [showable_strs, showable_strs] <;> rfl
  have s2 : (twoData xs ys).hasDict = false := by
    show (PyData.hasDictAll (strData xs) || (PyData.hasDictAll (strData ys) || false)) = false
    rw [nodict_strs, nodict_strs] <;> rfl
  have s3 : (twoData xs ys).depth = 2 := by
    show max (PyData.depthAll (strData xs) + 1) (max (PyData.depthAll (strData ys) + 1) 0) + 1 = 2
    rw [depth_strs, depth_strs] <;> rfl
  have s4 : (twoData xs ys).shown.length ≤ sizeLine := by
    show (listText [tupleText (PyData.shownAll (strData xs)), tupleText (PyData.shownAll (strData ys))]).length ≤ sizeLine
    rw [shown_strs, shown_strs]
    have k1 := listText_len_le [tupleText (xs.map reprText), tupleText (ys.map reprText)]
    have k2 := fmt_text (xs.map reprText)
    have k3 := fmt_text (ys.map reprText)
    have k4 := fmt_piled xs cx
    have k5 := fmt_piled ys cy
    simp only [List.map_cons, List.map_nil, List.sum_cons, List.sum_nil, List.length_cons, List.length_nil] at k1
    omega
  refine repr_of_reads' R s1 (fun z => by rw [s2] at z; cases z) hg (by rw [s3]; omega) (fun _ _ z => z) (fun h1 k tk hk => ?_) s4
  exact ⟨.str _, H, I.kept hk, ⟨k, rfl⟩, q⟩
end
end K15
namespace K15
open PySem PySem.Spec PyProof.Rows L2
/-! a set of unlike texts: made of a tuple, and sorted -/
def txOf (e : Int × Value) : Str := match e.2 with | .str x _ => x | _ => Str.empty
def TxE (w : World) (e : Int × Value) : Prop := ∃ x tk, e.2 = Value.str x tk ∧ e.1 = hashStr w x
/-- at a stands a set of the unlike texts l, its table in order -/
structure SetTx (w : World) (h : Heap) (a : Addr) (l : List Str) : Prop where
  ex : ∃ o es ep t, h.get? a = some o ∧ o.ExactSet ∧ o.data = .set es ep t ∧ (∀ e ∈ es.toList, TxE w e) ∧ (es.toList.map txOf).Perm l ∧
    es.size < scanBound ∧ t.fits es.size = true ∧ Ris t.place.toList ∧ (w.params.followText "set-order" = true ∨ t.led = true)
theorem SetTx.at {w : World} {h h1 : Heap} {a : Addr} {l : List Str} (R : SetTx w h a l) (k : ∀ o, h.get? a = some o → h1.get? a = some o) : SetTx w h1 a l := by
  obtain ⟨o, es, ep, t, ho, r⟩ := R.ex
  exact ⟨o, es, ep, t, k o ho, r⟩
section
variable {P : Program} {w : World}
theorem tx_elems {l : List (Int × Value)} (g : ∀ e ∈ l, TxE w e) : ElemsOf (strKind P w) l := fun e he => by
  obtain ⟨x, tk, h1, h2⟩ := g e he
  refine ⟨⟨x, ?_, h2⟩, by rw [h1] <;> rfl⟩
  rw [h1]
  show Value.isStrOf x (.str x tk) = true
  simp [Value.isStrOf]
theorem tx_is {e : Int × Value} (g : TxE w e) (k : Str) : (strKind P w).is k e.2 = true ↔ txOf e = k := by
  obtain ⟨x, tk, h1, _⟩ := g
  unfold txOf
  rw [h1]
  show Value.isStrOf k (.str x tk) = true ↔ x = k
  simp [Value.isStrOf]
variable {A : Around} {E : Value → Shared → Prop} {s : Shared} {a : Addr} {l : List Str}
/-- a text that is not in it is laid -/
theorem setTx_lay {x : Str} {tk : Tok} {Q : Bool → Shared → Prop} (R : SetTx w s.heap a l) (hx : x ∉ l) (room : l.length + 1 < scanBound)
    (hQ : ∀ h1, Heap.SameBut a s.heap h1 → SetTx w h1 a (x :: l) → Q true { s with heap := h1 }) :
    wpAny (model P w) A (setAddHashed a (.str x tk) ((strKind P w).hash x)) Q E s := by
  obtain ⟨o, es, ep, t, ho, hex, hd, g, pl, hb, hf, hr, hl⟩ := R.ex
  have hkey : (strKind P w).is x (.str x tk) = true := by
    show Value.isStrOf x (.str x tk) = true
    simp [Value.isStrOf]
  have hsc : (Value.str x tk).scannable = true := rfl
  have hel : ElemsOf (strKind P w) es.toList := tx_elems g
  have hnone : List.findIdx? (fun e => (strKind P w).is x e.2) es.toList = none := by
    refine List.findIdx?_eq_none_iff.mpr fun e he => ?_
    cases c : (strKind P w).is x e.2 with
    | false => rfl
    | true => exact absurd (pl.mem_iff.mp (List.mem_map.mpr ⟨e, he, (tx_is (P := P) (g e he) x).1 c⟩)) hx
  have hn : es.size = l.length := by
    rw [← pl.length_eq, List.length_map, Array.length_toList]
  unfold setAddHashed setAddHashedIn
  refine wpAny_holding (wpAny_bind (wpAny_setState_of ho hd hf ?_))
  dsimp only
  rw [byScan_of hsc hb hel]
  simp only [↓reduceIte]
  unfold setAddByScan
  refine wpAny_bind (wpAny_bind (wpAny_rule (wpAny_bind (wpAny_setScan_of hkey ho hd hf hel ?_))))
  rw [hnone]
  dsimp only
  have hgw : ∀ (b : Bool) {s1 : Shared} {Q1 : Unit → Shared → Prop}, Q1 () s1 → wpAny (model P w) A (match b with | true => rule "set.scan.the-table-gave-way" | false => pure ()) Q1 E s1 := fun b s1 Q1 q => by
    cases b
    · exact wpAny_pure q
    · exact wpAny_rule q
  have pm := layNew_perm t es ((strKind P w).hash x) (.str x tk)
  have hf1 := layNew_fits t es ((strKind P w).hash x) (.str x tk)
  have hr1 := layNew_ris t es ((strKind P w).hash x) (.str x tk) hr
  have hl1 := layNew_led t es ((strKind P w).hash x) (.str x tk)
  generalize layNew t es ((strKind P w).hash x) (.str x tk) = Z at pm hf1 hr1 hl1 ⊢
  obtain ⟨es1, t1, wasDummy, gave⟩ := Z
  dsimp only at pm hf1 hr1 hl1 ⊢
  rw [Array.toList_push] at pm
  have pc : es1.toList.Perm (((strKind P w).hash x, Value.str x tk) :: es.toList) := pm.trans (List.perm_append_singleton _ _)
  have g1 : ∀ e ∈ es1.toList, TxE w e := fun e he => by
    rcases List.mem_cons.mp (pc.mem_iff.mp he) with z | z
    · rw [z]
      exact ⟨x, tk, rfl, rfl⟩
    · exact g e z
  have p1 : (es1.toList.map txOf).Perm (x :: l) := (pc.map txOf).trans (List.Perm.cons x pl)
  have sz1 : es1.size = l.length + 1 := by
    have := p1.length_eq
    rw [List.length_map, Array.length_toList, List.length_cons] at this
    exact this
  have hb1 : es1.size < scanBound := by
    rw [sz1]
    exact room
  have hled : w.params.followText "set-order" = true ∨ t1.led = true := hl.imp id fun z => by
    rw [hl1]
    exact z
  -- the new table is stored; if too full it is laid anew
  have tail : ∀ (t2 : SetTable), t2.fits es1.size = true → Ris t2.place.toList → (w.params.followText "set-order" = true ∨ t2.led = true) → ∀ (gg : Bool → Sem Unit), (∀ (b : Bool) (s1 : Shared) (Q1 : Unit → Shared → Prop), Q1 () s1 → wpAny (model P w) A (gg b) Q1 E s1) →
      ∀ (Rr : Option Bool → Shared → Prop), (∀ h1, Heap.SameBut a s.heap h1 → SetTx w h1 a (x :: l) → Rr (some true) { s with heap := h1 }) →
      wpAny (model P w) A (do
        storeSet a es1 t2
        if (!wasDummy && t2.tooFull) = true then do
            gg (relayAll t2 es1 (SetTable.grown es1.size)).2.2
            storeSet a (relayAll t2 es1 (SetTable.grown es1.size)).1 (relayAll t2 es1 (SetTable.grown es1.size)).2.1
            pure (some true)
          else pure (some true)) Rr E s := by
    intro t2 f2 r2 l2 gg hgg Rr hR
    refine wpAny_bind (wpAny_storeSet_of ho hd ?_ (fits_of_scanBound hb1))
    have ho1 := store_at (es' := es1) (t' := t2) ho hd
    have sb1 := Heap.SameBut.update s.heap a (Obj.putSet es1 t2)
    split
    · have pm3 := relayAll_perm t2 es1 (SetTable.grown es1.size)
      have hf3 := relayAll_fits t2 es1 (SetTable.grown es1.size)
      have hr3 := relayAll_ris t2 es1 (SetTable.grown es1.size)
      have hl3 := relayAll_led t2 es1 (SetTable.grown es1.size)
      generalize relayAll t2 es1 (SetTable.grown es1.size) = Y at pm3 hf3 hr3 hl3 ⊢
      obtain ⟨es2, t3, gv⟩ := Y
      dsimp only at pm3 hf3 hr3 hl3 ⊢
      have hsz2 : es2.size = es1.size := by
        have := pm3.length_eq
        rw [Array.length_toList, Array.length_toList] at this
        exact this
      have hb2 : es2.size < scanBound := by
        rw [hsz2]
        exact hb1
      refine wpAny_bind (hgg _ _ _ (wpAny_bind (wpAny_storeSet_of ho1 rfl ?_ (fits_of_scanBound hb2))))
      have ho2 := store_at (es' := es2) (t' := t3) ho1 rfl
      refine wpAny_pure (hR _ (sb1.trans (Heap.SameBut.update _ a _)) ⟨_, es2, _, t3, ho2, hex, rfl, fun e he => g1 e (pm3.mem_iff.mp he), (pm3.map txOf).trans p1, hb2, hf3, hr3, ?_⟩)
      exact l2.imp id fun z => by
        rw [hl3]
        exact z
    · exact wpAny_pure (hR _ sb1 ⟨_, es1, _, t2, ho1, hex, rfl, g1, p1, hb1, f2, r2, l2⟩)
  refine wpAny_bind (hgw _ ?_)
  split
  · refine wpAny_bind ?_
    rw [hashByValue_scannable 8 hsc]
    refine wpAny_pure ?_
    refine tail _ ?_ ?_ ?_ _ ?_ _ ?_
    · first | (split <;> first | exact hf1 | exact SetTable.fits_plain_off hf1) | exact hf1
    · first | (split <;> exact hr1) | exact hr1
    · first | (split <;> exact hled) | exact hled
    · intro b s1 Q1 q
      cases b
      · exact wpAny_pure q
      · exact wpAny_rule q
    · intro h1 sb r
      dsimp only
      exact wpAny_pure (hQ h1 sb r)
  · refine wpAny_bind (wpAny_pure ?_)
    simp only [↓reduceIte]
    refine tail _ hf1 hr1 hled _ ?_ _ ?_
    · intro b s1 Q1 q
      cases b
      · exact wpAny_pure q
      · exact wpAny_rule q
    · intro h1 sb r
      dsimp only
      exact wpAny_pure (hQ h1 sb r)
end

/-! set(t), t a tuple of unlike texts -/
abbrev setO0 (w : World) : Obj := { cls := .type "set", dict := none, data := .set #[] 0 (.fresh 0 0 (!w.params.followText "set-order")) }
theorem setTx_none {w : World} {h : Heap} {a : Addr} (ho : h.get? a = some (setO0 w)) : SetTx w h a [] := by
  refine ⟨_, #[], 0, _, ho, ⟨rfl, rfl, rfl⟩, rfl, fun e he => by simp at he, by simp, by decide, by rfl, List.Pairwise.nil, ?_⟩
  show _ ∨ (!w.params.followText "set-order") = true
  cases w.params.followText "set-order"
  · exact .inr rfl
  · exact .inl rfl
section
variable {P : Program} {w : World} {A : Around} {E : Value → Shared → Prop} {s : Shared}
theorem set_loop_tx {I : Addr} {fp wr : List Addr} {G : Array GenState → Array GenState → Prop} {n : Nat} {Pv : Nat → Value → Prop} {St : Nat → Shared → Prop} {R : Result → Shared → Prop}
    (W : WalksS P w A.in1 I fp wr G n Pv St) (S : Addr) (hSf : S ∉ fp) (xs : List Str) (hn : n = xs.length) (nd : xs.Nodup) (hb : xs.length + 1 < scanBound) (hval : ∀ i v, Pv i v → ∃ t, v = Value.str (xs.getD i Str.empty) t) :
    ∀ (k i : Nat) (s : Shared), n - i = k → i ≤ n → St i s → SetTx w s.heap S (xs.take i).reverse →
      (∀ s1, Moved (S :: wr) G s s1 → SetTx w s1.heap S xs.reverse → R (.ok (.ret .none)) s1) →
      codeAny (model P w) A (.builtin "set.update.loop" ⟨[.ref S, .ref I], []⟩) R s := by
  have hSw : S ∉ wr := fun h => hSf (W.sub _ h)
  have sub1 : ∀ b ∈ wr, b ∈ S :: wr := fun b hb => List.mem_cons_of_mem _ hb
  intro k
  induction k with
  | zero =>
    intro i s hk hi hst hS hR
    have hin : i = n := by omega
    subst hin
    refine codeAny_builtin F.entry_set_update_loop ?_
    rw [Around.under_plainId F.plain_set_update_loop _]
    show wpAny _ A.in1 (pyNext (.ref I) >>= _) _ _ s
    refine wpAny_bind (W.done s _ _ hst fun s1 hm => ?_)
    show wpAny _ A.in1 (ret Value.none) _ _ s1
    refine wpAny_pure (hR s1 (hm.mono sub1) ?_)
    rw [hn, List.take_length] at hS
    exact hS.at fun o e => hm.heap S o hSw e
  | succ k ih =>
    intro i s hk hi hst hS hR
    have hlt : i < n := by omega
    have hltx : i < xs.length := by omega
    refine codeAny_builtin F.entry_set_update_loop ?_
    rw [Around.under_plainId F.plain_set_update_loop _]
    show wpAny _ A.in1 (pyNext (.ref I) >>= _) _ _ s
    refine wpAny_bind (W.item i s _ _ hlt hst fun v s1 hP hst1 hm => ?_)
    obtain ⟨t, rfl⟩ := hval i v hP
    have ex : xs.getD i Str.empty = xs[i] := by simp [List.getD, hltx]
    rw [ex]
    have hS1 : SetTx w s1.heap S (xs.take i).reverse := hS.at fun o e => hm.heap S o hSw e
    show wpAny _ A.in1 (holding [Value.str xs[i] t] (setAdd S (.str xs[i] t)) >>= _) _ _ s1
    refine wpAny_bind (wpAny_holding ?_)
    unfold setAdd
    refine wpAny_holding ?_
    have hkey : (PySem.strKind P w).is xs[i] (.str xs[i] t) = true := by
      show Value.isStrOf xs[i] (.str xs[i] t) = true
      simp [Value.isStrOf]
    refine wpAny_bind ((PySem.strKind P w).pyHash (k := xs[i]) hkey ?_)
    have hout : xs[i] ∉ (xs.take i).reverse := fun hmem => by
      obtain ⟨j, hj, e⟩ := List.mem_iff_getElem.mp (List.mem_reverse.mp hmem)
      rw [List.length_take] at hj
      rw [List.getElem_take] at e
      have := (List.getElem_inj nd).mp e
      omega
    have hroom : (xs.take i).reverse.length + 1 < scanBound := by
      rw [List.length_reverse, List.length_take]
      omega
    refine setTx_lay (s := { s1 with toks := s1.toks + 1 }) hS1 hout hroom fun h2 hsb hS2 => ?_
    have hS3 : SetTx w h2 S (xs.take (i + 1)).reverse := by
      rw [List.take_succ_eq_append_getElem hltx, List.reverse_append]
      exact hS2
    refine wpAny_pure ⟨plainId_quiet F.plain_set_update_loop _, ih (i + 1) _ (by omega) hlt (W.frame _ s1 _ _ hst1 (Nat.le_succ _) fun b hb o e => ?_) hS3 fun s2 hm2 hS4 => ?_⟩
    · rw [hsb.2 b (fun z => hSf (z ▸ hb))]
      exact e
    · refine hR s2 (Moved.trans W.gtrans ((hm.mono sub1).then_heap (Nat.le_succ _) fun b o hb e => ?_) hm2) hS4
      rw [hsb.2 b (fun z => hb (z ▸ List.mem_cons_self))]
      exact e
set_option maxHeartbeats 8000000 in
theorem call_set_tx {l : Addr} {items : Array Value} (xs : List Str) {Q : Value → Shared → Prop} (hh : A.handled = none) (hl : s.heap.IsTuple l items) (hit : StrsAre items.toList xs) (nd : xs.Nodup) (hb : xs.length + 1 < scanBound)
    (h : ∀ (h1 : Heap) (tk : Nat), SetTx w h1 s.heap.objs.size xs.reverse → (∀ b o, s.heap.get? b = some o → h1.get? b = some o) → Q (.ref s.heap.objs.size) { s with heap := h1, toks := tk }) :
    wpAny (model P w) A (call (.type "set") [.ref l]) Q E s := by
  have hisz : items.size = xs.length := by
    have q := StrsAre.len_eq hit
    rw [Array.length_toList] at q
    exact q
  obtain ⟨c, tl, hmro⟩ := F.called_set.mro
  have hmade := F.called_set.made
  have hsub := F.called_set.sub
  refine wpAny_call (codeAny_of_tree ?_)
  show wpAny _ _ (callAny (.type "set") _) _ _ _
  refine wpAny_pure ⟨Code.quiet_builtin _ (by decide +kernel), codeAny_builtin F.entry_type_call ?_⟩
  rw [Around.under_plain (weight_type_call_type "set" [.ref l] []) rfl]
  have h1 := F.called_set.notType
  have h2 := F.called_set.canCreate
  have hct := F.typeCall_set_1 (.ref l)
  repeat (any_goals (first | assumption | wp_step))
  refine codeAny_mono (code_set_led1 (.ref l) (E := E) (Q₁ := fun obj s1 => obj = .ref s.heap.objs.size ∧ s1 = { s with heap := s.heap.push (setO0 w) }) ⟨rfl, rfl⟩) fun r s1 hr => ?_
  cases r with
  | error e => exact hr
  | ok fl =>
    cases fl with
    | ret obj =>
      obtain ⟨rfl, rfl⟩ := hr
      have hS : (s.heap.push (setO0 w)).get? s.heap.objs.size = some (setO0 w) := Heap.get?_push_size _ rfl
      have hT : Shared.TypeIs { s with heap := s.heap.push (setO0 w) } (.ref s.heap.objs.size) "set" := ⟨_, hS, rfl⟩
      have hli := F.called_set.init.lookup
      have hbi := F.called_set.init.bind (.ref s.heap.objs.size)
      repeat (any_goals (first | assumption | wp_step))
      refine codeAny_mono (codeAny_call_builtin (R := wants (fun r s2 => r = .none ∧ ∃ h1 tk, s2 = { s with heap := h1, toks := tk } ∧ SetTx w h1 s.heap.objs.size xs.reverse ∧ (∀ b o, s.heap.get? b = some o → h1.get? b = some o)) E)
        F.called_set.init.plain F.entry_set_init (check_set_init_1 hT ?_)) fun r2 s2 hr2 => ?_
      · obtain ⟨⟨ocls, odict, odata, oslots⟩, hol, hcl, nl, hdl⟩ := hl
        simp only at hcl hdl
        subst hcl
        subst hdl
        have hol1 : (s.heap.push (setO0 w)).get? l = some { cls := .type "tuple", dict := odict, data := .seq items nl, slots := oslots } := Heap.get?_push_of_some _ hol
        have hsls := F.sub_tuple_set
        have hslf := F.sub_tuple_frozenset
        have hne : (Value.type "tuple" == Value.type "dict") = false := by decide
        have hl1 : (s.heap.push (setO0 w)).IsTuple l items := ⟨_, hol1, rfl, nl, rfl⟩
        unfold Builtin.«set.__init__» noKeywords Builtin.Frozenset.updateFrom
        generalize hPI : pyIter = PI
        wp_walk
        subst hPI
        refine wpAny_pyIter_tuple hl1 (wpAny_bind (wpAny_runValue ?_))
        have hlS : l < s.heap.objs.size := Heap.lt_size hol
        have hh3 : A.in1.in1.in1.handled = none := by simp [hh]
        have hz1 : (s.heap.push (setO0 w)).objs.size = s.heap.objs.size + 1 := Heap.size_push ..
        have hneI : l ≠ (s.heap.push (setO0 w)).objs.size := by
          rw [hz1]
          exact Nat.ne_of_lt (Nat.lt_succ_of_lt hlS)
        have hSf : s.heap.objs.size ∉ [(s.heap.push (setO0 w)).objs.size, l] := by
          rw [hz1]
          intro hm
          rcases (by simpa using hm : s.heap.objs.size = s.heap.objs.size + 1 ∨ s.heap.objs.size = l) with z | z
          · exact absurd z (Nat.ne_of_lt (Nat.lt_succ_self _))
          · exact absurd z (Nat.ne_of_gt hlS)
        have hval : ∀ (i : Nat) (v : Value), items[i]? = some v → ∃ t, v = Value.str (xs.getD i Str.empty) t := fun i v hv => SS.strs_at hit i v (by rw [Array.getElem?_toList]; exact hv)
        refine set_loop_tx ((Walks.tuple hh3 _ l hneI items).toS) s.heap.objs.size hSf xs hisz nd hb hval (items.size - 0) 0 _ (by omega) (Nat.zero_le _) ⟨⟨_, Heap.get?_push_size _ rfl, rfl, rfl⟩, (hl1.push _)⟩ ?hS0 ?hR
        case hS0 =>
          exact setTx_none (Heap.get?_push_of_some _ hS)
        case hR =>
          intro s1 hm hS1
          obtain ⟨h1, g1, d1, tk1, os1⟩ := s1
          have eg : g1 = s.gens := hm.gens
          have ed : d1 = s.drawn := hm.drawn
          have eo : os1 = s.os := hm.os
          subst eg
          subst ed
          subst eo
          show wpAny _ _ _ _ _ _
          refine wpAny_pure ?_
          show wpAny _ _ (ret Value.none) _ _ _
          refine wpAny_pure ⟨rfl, h1, tk1, rfl, hS1, fun b o e => ?_⟩
          have hb0 : b < s.heap.objs.size := Heap.lt_size e
          refine hm.heap b o (fun hm2 => ?_) (Heap.get?_push_of_some _ (Heap.get?_push_of_some _ e))
          rw [hz1] at hm2
          rcases (by simpa using hm2 : b = s.heap.objs.size ∨ b = s.heap.objs.size + 1) with z | z
          · exact absurd z (Nat.ne_of_lt hb0)
          · exact absurd z (Nat.ne_of_lt (Nat.lt_succ_of_lt hb0))
      · cases r2 with
        | error e => exact hr2
        | ok fl2 =>
          cases fl2 with
          | ret r =>
            obtain ⟨rfl, h1, tk, rfl, hS1, hk1⟩ := hr2
            repeat (any_goals (first | assumption | wp_step))
            exact h _ _ hS1 hk1
          | _ => exact hr2.elim
    | _ => exact hr.elim
/-! sorted(a set of texts) -/
theorem strs_of_tx : ∀ (l : List Value), (∀ v ∈ l, ∃ x tk, v = Value.str x tk) → StrsAre l (l.map fun v => match v with | .str x _ => x | _ => Str.empty)
  | [], _ => .nil
  | v :: l, h => by
    obtain ⟨x, tk, rfl⟩ := h v List.mem_cons_self
    exact .cons x tk (strs_of_tx l fun u hu => h u (List.mem_cons_of_mem _ hu))
theorem sorted_setTx {a : Addr} {l : List Str} {Q : Value → Shared → Prop} (R : SetTx w s.heap a l) (hh : A.handled = none)
    (hQ : ∀ s1 p (out : Array Value) (c : Nat) (ys : List Str), (∀ b o, s.heap.get? b = some o → s1.heap.get? b = some o) → s1.gens = s.gens → s1.os = s.os → s.heap.objs.size ≤ p →
      s1.heap.get? p = some (seqObj "list" out c) → StrsAre out.toList ys → ys.Perm l → sortedS ys = true → Q (.ref p) s1) :
    wpAny (model P w) A (call (.builtin "sorted") [.ref a]) Q E s := by
  obtain ⟨o, es, ep, t, ho, hex, hd, g, pl, hb, hf, hr, hl⟩ := R.ex
  refine Calls.call_function_entry kind_sorted plain_sorted entry_sorted (args_sorted1 _) ?_
  unfold Builtin.«sorted»
  refine wpAny_bind (m := checkCount "sorted" 1 1 _) (wpAny_pure ?_)
  refine wpAny_bind (collect_set (A := A.in1) hh ⟨o, ho, hex.1, hd⟩ hf hb hr hl fun s1 vs k1 hz g1 o1 pm => ?_)
  have hvl : vs.length ≤ sizeLine := by
    rw [pm.length_eq, List.length_map, Array.length_toList]
    exact fits_of_scanBound hb
  have hS : StrsAre vs (vs.map fun v => match v with | .str x _ => x | _ => Str.empty) := strs_of_tx vs fun v hv => by
    obtain ⟨e, he, q⟩ := List.mem_map.mp (pm.mem_iff.mp hv)
    obtain ⟨x, tk, h1, _⟩ := g e he
    exact ⟨x, tk, by rw [← q]; exact h1⟩
  have pk : (vs.map fun v => match v with | .str x _ => x | _ => Str.empty).Perm l := by
    have q := pm.map (fun v : Value => match v with | .str x _ => x | _ => Str.empty)
    rw [List.map_map] at q
    exact q.trans pl
  refine wpAny_bind (wpAny_newList ?_ hvl)
  have hoL : (s1.heap.push (seqObj "list" vs.toArray 0)).get? s1.heap.objs.size = some (seqObj "list" vs.toArray 0) := Heap.get?_push_size _ rfl
  refine wpAny_bind (wpAny_holding (wpAny_call_entry slot_list_sort ⟨_, hoL, rfl⟩ entry_list_sort (list_sort_treeKAny strKind_oneLt hoL hS.keysOf (fun v1 v2 rest e => keyKind_strs (by rw [← e]; exact hS)) hvl fun st a1 a2 => ⟨_, rfl, ?_⟩) (args_list_sort _)))
  obtain ⟨ys, y1, y2, y3⟩ := sorted_out_str hS a1 a2
  obtain ⟨c, hc⟩ := sortedHeap_at (vs := vs) (out := (arrOf st).map (·.2)) hoL
  refine wpAny_pure ⟨_, rfl, hQ _ s1.heap.objs.size _ c ys (fun b u e => ?_) g1 o1 hz hc y1 (y2.trans pk) y3⟩
  have q := k1 b u e
  have hlt := Heap.lt_size q
  show (sortedHeap (s1.heap.push (seqObj "list" vs.toArray 0)) s1.heap.objs.size vs _).get? b = some u
  rw [sortedHeap_old (Nat.ne_of_lt hlt) (by rw [PySem.Heap.size_push]; exact Nat.lt_succ_of_lt hlt)]
  exact Heap.get?_push_of_some _ q
end
/-! the rules, by values -/
def SetTxO (w : World) (a : Addr) (l : List Str) : HO := .ext fun h => SetTx w h a l
section
variable {X : Cx}
theorem setTxO_ok {w : World} {P : Program} {H : Hp} {h : Heap} {a : Addr} {l : List Str} (R : SetTx w h a l) : ObjOk P w H h a (SetTxO w a l) := by
  obtain ⟨o, _, _, _, ho, _⟩ := R.ex
  exact ⟨R, ⟨o, ho⟩, fun h1 h2 p k => SetTx.at p k⟩
def rSetTup (K : PySem.W.Frag) (w : World) : List V → Hp → VK → Prop := fun vs H Q => ∃ (a : Addr) (xs : List Str), vs = [.ref a] ∧ SqT K H a (xs.map V.str) ∧ xs.Nodup ∧ xs.length + 1 < scanBound ∧
  ∀ p, H p = none → Q (.ref p) (upd H p (SetTxO w p xs.reverse))
theorem cr_setTup (hc : X.calm = true) : CallR X (.type "set") (rSetTup X.K X.w) := by
  intro pins s σ H vs us Q I r h
  obtain ⟨a, xs, rfl, ha, nd, hb, q⟩ := h
  rw [Vals.ref1 r]
  obtain ⟨its, rv, pl, hz⟩ := I.tuple ha
  refine call_set_tx xs (I.ok.hd hc) pl (by simpa using rv.strs) nd hb fun h1 tk hS hk => ?_
  exact ⟨.ref _, upd H s.heap.objs.size (SetTxO X.w s.heap.objs.size xs.reverse), I.laid (t' := tk) hk (Nat.le_refl _) (setTxO_ok hS), rfl, q _ (I.hok.fresh (Nat.le_refl _))⟩
def rSortSetTx (w : World) : List V → Hp → VK → Prop := fun vs H Q => ∃ (a : Addr) (l : List Str), vs = [.ref a] ∧ H a = some (SetTxO w a l) ∧ l.length ≤ sizeLine ∧
  ∀ (ys : List Str) (p : Addr), ys.Perm l → sortedS ys = true → H p = none → Q (.ref p) (upd H p (.lst (ys.map V.str)))
theorem cr_sortSetTx (hc : X.calm = true) : CallR X (.builtin "sorted") (rSortSetTx X.w) := by
  intro pins s σ H vs us Q I r h
  obtain ⟨a, l, rfl, ha, hz, q⟩ := h
  have R : SetTx X.w s.heap a l := (I.hok a _ ha).1
  rw [Vals.ref1 r]
  refine sorted_setTx R (I.ok.hd hc) fun s1 p out c ys k g o hp hg hi pm hs => ?_
  have hlen : (ys.map V.str).length ≤ sizeLine := by
    rw [List.length_map, pm.length_eq]
    exact hz
  have hn : H p = none := I.hok.fresh hp
  have J : Inv X pins σ (upd H p (.lst (ys.map V.str))) { s with heap := s1.heap, gens := s1.gens, drawn := s1.drawn, toks := s1.toks } :=
    I.call (ch := []) (Un.laid k hp hn) (I.hok.laid k hp ⟨hlen, out.toList, c, vals_of_strs hi, hg⟩) (by rw [g]; exact I.bare) (fun _ z => nomatch z)
  have e : s1 = { s with heap := s1.heap, gens := s1.gens, drawn := s1.drawn, toks := s1.toks } := by
    cases s1
    cases s
    cases o
    rfl
  rw [e]
  exact ⟨.ref p, _, J, rfl, q ys p pm hs hn⟩
end
end K15
namespace K15
open PySem PySem.Spec PyProof.Rows L2
/-! words as texts -/
theorem occ_count (x : Str) (c lim : Nat) : ∀ (m i : Nat) (st : Array Nat × Nat), st.snd ≤ i → st.fst.size + m ≤ lim →
    (forIn (List.range' i m) st (StrLaws.occBody x ⟨#[c]⟩ x.length lim)).run.fst.size = st.fst.size + ((x.cps.toList.drop i).take m).count c
  | 0, i, st, _, _ => by simp
  | m + 1, i, st, h1, h2 => by
    rw [List.range'_succ, List.forIn_cons]
    unfold StrLaws.occBody
    have hs := StrLaws.subAt_one x c i
    cases hq : x.cps.toList[i]? with
    | none =>
      have hn : ¬ (((st.fst.size < lim ∧ st.snd ≤ i) ∧ i + (⟨#[c]⟩ : Str).length ≤ x.length) ∧ Builtin.Str.subAt x ⟨#[c]⟩ i = true) := fun z => by
        have := hs.mp ⟨z.1.2, z.2⟩
        rw [hq] at this
        cases this
      rw [if_neg hn]
      have ih := occ_count x c lim m (i + 1) (st.fst, st.snd) (Nat.le_succ_of_le h1) (by show st.fst.size + m ≤ lim; omega)
      have hd : x.cps.toList.drop i = [] := List.drop_eq_nil_of_le (List.getElem?_eq_none_iff.mp hq)
      have hd2 : x.cps.toList.drop (i + 1) = [] := List.drop_eq_nil_of_le (Nat.le_succ_of_le (List.getElem?_eq_none_iff.mp hq))
      rw [hd2] at ih
      rw [hd]
      refine Eq.trans ih ?_
      simp
    | some d =>
      have hlt := (List.getElem?_eq_some_iff.mp hq).1
      have hd : x.cps.toList.drop i = d :: x.cps.toList.drop (i + 1) := by
        rw [List.drop_eq_getElem_cons hlt, (List.getElem?_eq_some_iff.mp hq).2]
      rw [hd, List.take_succ_cons, List.count_cons]
      by_cases e : d = c
      · subst e
        have hy := hs.mpr hq
        have hp : ((st.fst.size < lim ∧ st.snd ≤ i) ∧ i + (⟨#[d]⟩ : Str).length ≤ x.length) ∧ Builtin.Str.subAt x ⟨#[d]⟩ i = true := ⟨⟨⟨by omega, h1⟩, hy.1⟩, hy.2⟩
        rw [if_pos hp]
        have ih := occ_count x d lim m (i + 1) (st.fst.push i, i + (⟨#[d]⟩ : Str).length) (Nat.le_refl _) (by show (st.fst.push i).size + m ≤ lim; rw [Array.size_push]; omega)
        refine Eq.trans ih ?_
        rw [show (st.fst.push i, i + (⟨#[d]⟩ : Str).length).fst.size = st.fst.size + 1 from Array.size_push ..]
        simp
        omega
      · have hn : ¬ (((st.fst.size < lim ∧ st.snd ≤ i) ∧ i + (⟨#[c]⟩ : Str).length ≤ x.length) ∧ Builtin.Str.subAt x ⟨#[c]⟩ i = true) := fun z => by
          have := hs.mp ⟨z.1.2, z.2⟩
          rw [hq] at this
          exact e (Option.some.inj this)
        rw [if_neg hn]
        have ih := occ_count x c lim m (i + 1) (st.fst, st.snd) (Nat.le_succ_of_le h1) (by show st.fst.size + m ≤ lim; omega)
        refine Eq.trans ih ?_
        simp [e]
theorem count_one (x : Str) (c : Nat) : Txt.count x ⟨#[c]⟩ = ((x.cps.toList.count c : Nat) : Int) := by
  unfold Txt.count
  rw [StrLaws.occ_eq, Array.length_toList]
  have k := occ_count x c (x.length + 1) (x.length + 1 - 0) 0 (#[], 0) (Nat.le_refl _) (by show 0 + (x.length + 1 - 0) ≤ x.length + 1; omega)
  have hl : x.cps.toList.length = x.length := by simp [Str.length]
  rw [List.drop_zero, List.take_of_length_le (by omega)] at k
  rw [k]
  simp
def sg (b : Bool) : Nat := if b then 49 else 48
def S (w : W) : Str := ⟨(w.map sg).toArray⟩
theorem sg_inj {a b : Bool} (h : sg a = sg b) : a = b := by
  cases a <;> cases b <;> first | rfl | (exact absurd h (by decide))
theorem S_cps (w : W) : (S w).cps.toList = w.map sg := rfl
theorem S_len (w : W) : (S w).length = w.length := by simp [S, Str.length]
theorem map_sg_inj : ∀ {a b : W}, a.map sg = b.map sg → a = b
  | [], [], _ => rfl
  | [], _ :: _, h => by simp at h
  | _ :: _, [], h => by simp at h
  | x :: a, y :: b, h => by
    rw [List.map_cons, List.map_cons] at h
    injection h with h1 h2
    rw [sg_inj h1, map_sg_inj h2]
theorem S_inj {a b : W} (h : S a = S b) : a = b := map_sg_inj (by rw [← S_cps, ← S_cps, h])
theorem S_iff {a b : W} : S a = S b ↔ a = b := ⟨S_inj, fun h => h ▸ rfl⟩
theorem str_ext {x y : Str} (h : x.cps.toList = y.cps.toList) : x = y := by
  obtain ⟨a⟩ := x
  obtain ⟨b⟩ := y
  have e : a = b := Array.toList_inj.mp h
  rw [e]
theorem S_app (a b : W) : S a ++ S b = S (a ++ b) := by
  apply str_ext
  show ((a.map sg).toArray ++ (b.map sg).toArray).toList = (S (a ++ b)).cps.toList
  simp [S]
theorem S_nil : (Str.ofString "" : Str) = S [] := by decide +kernel
theorem S_one : (Str.ofString "1" : Str) = S [true] := by decide +kernel
theorem S_zero : (Str.ofString "0" : Str) = S [false] := by decide +kernel
theorem S_ten : (Str.ofString "10" : Str) = S [true, false] := by decide +kernel
theorem S_at (w : W) (i : Nat) : (S w).cps[i]? = (w[i]?).map sg := by simp [S]
theorem S_sign (b : Bool) : (⟨#[sg b]⟩ : Str) = S [b] := rfl
theorem S_is1 (b : Bool) : decide (V.str (S [b]) = V.str (Str.ofString "1")) = b := by
  rw [S_one]
  cases b <;> decide +kernel
theorem S_cut (w : W) (i j : Nat) : cutS (S w) (some (i : Int)) (some (j : Int)) = S ((w.take j).drop i) := by
  apply str_ext
  unfold cutS
  rw [HT.sIx_nat, HT.sIx_nat, S_cps, S_cps, S_len]
  simp only []
  rw [← List.map_drop, ← List.map_take]
  congr 1
  rw [List.drop_take]
  by_cases h : i ≤ w.length
  · rw [Nat.min_eq_left h]
    by_cases h2 : j ≤ w.length
    · rw [Nat.min_eq_left h2]
    · rw [Nat.min_eq_right (Nat.le_of_lt (Nat.lt_of_not_le h2))]
      rw [List.take_of_length_le (by rw [List.length_drop]; exact Nat.le_refl _), List.take_of_length_le (by rw [List.length_drop]; omega)]
  · rw [Nat.min_eq_right (Nat.le_of_lt (Nat.lt_of_not_le h))]
    rw [List.drop_eq_nil_of_le (Nat.le_refl _), List.drop_eq_nil_of_le (show w.length ≤ i by omega)]
    simp
theorem S_cutFrom (w : W) (i : Nat) : cutS (S w) (some (i : Int)) none = S (w.drop i) := by
  apply str_ext
  unfold cutS
  rw [HT.sIx_nat, HT.sIx_none, S_cps, S_cps, S_len]
  simp only []
  rw [← List.map_drop, ← List.map_take]
  congr 1
  by_cases h : i ≤ w.length
  · rw [Nat.min_eq_left h, List.take_of_length_le (by rw [List.length_drop]; omega)]
  · rw [Nat.min_eq_right (by omega), List.drop_eq_nil_of_le (Nat.le_refl _), List.drop_eq_nil_of_le (show w.length ≤ i by omega)]
    simp
theorem S_cutTo (w : W) (j : Nat) : cutS (S w) none (some (j : Int)) = S (w.take j) := by
  apply str_ext
  unfold cutS
  rw [HT.sIx_nat, HT.sIx_none, S_cps, S_cps, S_len]
  simp only [List.drop_zero, Nat.sub_zero]
  rw [← List.map_take]
  congr 1
  by_cases h : j ≤ w.length
  · rw [Nat.min_eq_left h]
  · rw [Nat.min_eq_right (by omega), List.take_of_length_le (Nat.le_refl _), List.take_of_length_le (by omega)]
def ones (w : W) : Nat := w.count true
theorem count_map : ∀ w : W, (w.map sg).count 49 = ones w
  | [] => rfl
  | true :: w => by
    have := count_map w
    simp only [List.map_cons, ones, List.count_cons] at this ⊢
    rw [this] <;> rfl
  | false :: w => by
    have := count_map w
    simp only [List.map_cons, ones, List.count_cons] at this ⊢
    rw [this] <;> rfl
theorem S_count (w : W) : Txt.count (S w) (Str.ofString "1") = ((ones w : Nat) : Int) := by
  rw [S_one]
  show Txt.count (S w) ⟨#[49]⟩ = _
  rw [count_one, S_cps, count_map]
theorem rep_zero (k : Int) : repS (Str.ofString "0") k = S (List.replicate k.toNat false) := by
  rw [S_zero]
  apply str_ext
  unfold repS
  rw [S_cps, S_cps]
  simp [sg, List.flatten_replicate_singleton]
theorem rep_ten (k : Int) : repS (Str.ofString "10") k = S (List.replicate k.toNat [true, false]).flatten := by
  rw [S_ten]
  apply str_ext
  unfold repS
  rw [S_cps, S_cps]
  simp [List.map_flatten]
/-- the order of texts is that of words -/
theorem S_lt : ∀ a b : W, (cpl (S a) < cpl (S b)) ↔ ltW a b = true
  | [], [] => by simp [cpl, S_cps, ltW]
  | [], _ :: _ => by simp [cpl, S_cps, ltW]
  | _ :: _, [] => by simp [cpl, S_cps, ltW]
  | false :: _, true :: _ => by simp [cpl, S_cps, ltW, sg, List.cons_lt_cons_iff]
  | true :: _, false :: _ => by simp [cpl, S_cps, ltW, sg, List.cons_lt_cons_iff]
  | false :: a, false :: b => by
    have := S_lt a b
    simp only [cpl, S_cps] at this ⊢
    simp only [List.map_cons, List.cons_lt_cons_iff, Nat.lt_irrefl, false_or, true_and, ltW]
    exact this
  | true :: a, true :: b => by
    have := S_lt a b
    simp only [cpl, S_cps] at this ⊢
    simp only [List.map_cons, List.cons_lt_cons_iff, Nat.lt_irrefl, false_or, true_and, ltW]
    exact this
end K15
namespace K15
open PySem PySem.Spec PyProof.Rows L2
/-! ### the text by places -/
def topS (i : Nat) : Stmt := PySem.Challenge.pw_everyhalf_k15_whole_trees_listed.main.body.getD i (.Pass ⟨0, 0, 0, 0⟩)
abbrev sInteger : Stmt := topS 6
abbrev sWithin : Stmt := topS 7
abbrev sSigns : Stmt := topS 8
abbrev sNeedNum : Stmt := topS 9
abbrev sIsWord : Stmt := topS 12
abbrev sNeedWord : Stmt := topS 13
abbrev sFirst : Stmt := topS 14
abbrev sTurned : Stmt := topS 15
abbrev sTurns : Stmt := topS 16
abbrev sLots : Stmt := topS 19
abbrev sWays : Stmt := topS 20
abbrev sAllIn : Stmt := topS 21
abbrev sBehind : Stmt := topS 22
abbrev sAllWords : Stmt := topS 23
abbrev sNameIn : Stmt := topS 26
abbrev sCommon : Stmt := topS 27
abbrev sApart : Stmt := topS 28
abbrev sPlace : Stmt := topS 29
abbrev sTie : Stmt := topS 30
abbrev sNameOf : Stmt := topS 31
abbrev sHow : Stmt := topS 32
abbrev sAllTrees : Stmt := topS 33
abbrev sGrove : Stmt := topS 35
abbrev sFell : Stmt := topS 36
abbrev sOneOf : Stmt := topS 37
abbrev sLAll : Stmt := topS 38
abbrev sLTurned : Stmt := topS 39
abbrev sLTurns : Stmt := topS 40
abbrev sLLots : Stmt := topS 41
abbrev sLaw : Stmt := topS 42
/-- a def of the text: where it stands, how its arguments bind, that its name holds it -/
structure Df (K : PySem.W.Frag) (mg : Str → Option Value) (x : Str) (st : Stmt) (f : Addr) (fd : FuncData) (ps : List Str) : Prop where
  fn : Fun K x x st f fd
  bd : Binds K fd ps []
  gl : mg x = some (.ref f)
/-- the built-in names that the text leaves as they are, its constants -/
structure Bl (mg : Str → Option Value) : Prop where
  isi : mg "isinstance" = none
  int : mg "int" = none
  bool : mg "bool" = none
  str : mg "str" = none
  all : mg "all" = none
  len : mg "len" = none
  enu : mg "enumerate" = none
  rng : mg "range" = none
  tup : mg "tuple" = none
  min : mg "min" = none
  abs : mg "abs" = none
  sor : mg "sorted" = none
  sum : mg "sum" = none
  lst : mg "list" = none
  set : mg "set" = none
  rep : mg "repr" = none
  signs : ∃ t, mg "SIGNS" = some (.str (S [false, true]) t)
  most : ∃ t, mg "MOST_PAIRS" = some (.int 200 t)
  mostW : ∃ t, mg "MOST_LISTED_word_numbers" = some (.int 9 t)
  mostT : ∃ t, mg "MOST_LISTED_tree_names" = some (.int 9 t)
theorem ifT {c A B : Prop} [Decidable c] (hc : c) (h : A) : if c then A else B := by
  rw [if_pos hc]
  exact h
theorem ifF {c A B : Prop} [Decidable c] (hc : ¬ c) (h : B) : if c then A else B := by
  rw [if_neg hc]
  exact h
theorem same_upd {H : Hp} {p : Addr} {o : HO} (h : H p = none) : Same H (upd H p o) := fun b x e => by
  rw [upd_ne (ne_of_none e h)]
  exact e
section
variable {P : Program} {w : World} {K : PySem.W.Frag} {mg : Str → Option Value} {base : Heap}
/-! ### is_integer, is_within, need_number: of an int -/
def spInteger : Sp := fun vs H Q _ => ∃ i : Int, vs = [.int i] ∧ Q (.bl true) H
theorem scInteger : FnScope ["value"] ["value"] (defScope sInteger) := ⟨rfl, rfl, rfl, by decide +kernel, rfl, by decide +kernel, by decide +kernel⟩
theorem ok_integer {f : Addr} {fd : FuncData} (D : Df K mg "is_integer" sInteger f fd ["value"]) (B : Bl mg) : FnOk P w K mg base CX0 1 f fd ["value"] spInteger := by
  refine D.fn.ok scInteger (fun vs H Q E h => ?_) (fun cdv A outer s H vs Q E hr h => ?_)
  · obtain ⟨i, rfl, _⟩ := h
    rfl
  · obtain ⟨i, rfl, q⟩ := h
    refine ⟨_, pss_one (ps_ret (pe_and (pe_callB call_isi (by rfl) B.isi (by decide +kernel) (pa_cons (pv 0) (pa_cons (pe_bltn (v := .ty "int") (by rfl) B.int (by decide +kernel) rfl) pa_nil)))
      (pe_one (pe_not (pe_callB call_isi (by rfl) B.isi (by decide +kernel) (pa_cons (pv 0) (pa_cons (pe_bltn (v := .ty "bool") (by rfl) B.bool (by decide +kernel) rfl) pa_nil))))))), ?_⟩
    refine ⟨.int i, rfl, .int i, .ty "int", .type "int", .type "int", true, rfl, .ty _, .base (.int _), kit_ty (by decide +kernel), true, rfl, ?_⟩
    exact iteT ⟨.int i, rfl, .int i, .ty "bool", .type "int", .type "bool", false, rfl, .ty _, .base (.int _), kit_ty (by decide +kernel), false, rfl, q⟩
def spWithin : Sp := fun vs H Q _ => ∃ i lo hi : Int, vs = [.int i, .int lo, .int hi] ∧ lo ≤ i ∧ i ≤ hi ∧ Q (.bl true) H
theorem scWithin : FnScope ["value", "least", "most"] ["value", "least", "most"] (defScope sWithin) := ⟨rfl, rfl, rfl, by decide +kernel, rfl, by decide +kernel, by decide +kernel⟩
theorem ok_within {f f1 : Addr} {fd fd1 : FuncData} (D : Df K mg "is_within" sWithin f fd ["value", "least", "most"]) (D1 : Df K mg "is_integer" sInteger f1 fd1 ["value"])
    (G1 : FnOk P w K mg base CX0 1 f1 fd1 ["value"] spInteger) : FnOk P w K mg base CX0 2 f fd ["value", "least", "most"] spWithin := by
  refine D.fn.ok scWithin (fun vs H Q E h => ?_) (fun cdv A outer s H vs Q E hr h => ?_)
  · obtain ⟨i, lo, hi, rfl, _⟩ := h
    rfl
  · obtain ⟨i, lo, hi, rfl, h1, h2, q⟩ := h
    refine ⟨_, pss_cons (ps_if (pt_not (pt_val (pe_call G1 hr (by rfl) D1.gl D1.fn.kp D1.bd .nil pass0 (pa_cons (pv 0) pa_nil)))) (pss_one (ps_ret pe_bl)) pss_nil)
      (pss_one (ps_ret (pe_and (pe_or (pe_cmp (pc_isN (pv 1))) (pe_one (pe_cmp (pc_le (pv 1) (pv 0))))) (pe_one (pe_or (pe_cmp (pc_isN (pv 2))) (pe_one (pe_cmp (pc_le (pv 0) (pv 2))))))))), ?_⟩
    refine ⟨.int i, rfl, i, rfl, true, rfl, iteF ?_⟩
    refine ⟨.int lo, rfl, false, rfl, iteF ⟨.int lo, rfl, .int i, rfl, lo, i, rfl, rfl, true, ?_, iteT ⟨.int hi, rfl, false, rfl, iteF ⟨.int i, rfl, .int hi, rfl, i, hi, rfl, rfl, ?_⟩⟩⟩⟩
    · show V.bl (decide (lo ≤ i)) = V.bl true
      rw [decide_eq_true h1]
    · show Q (V.bl (decide (i ≤ hi))) H
      rw [decide_eq_true h2]
      exact q
def spNeedNum : Sp := fun vs H Q _ => ∃ (i lo hi : Int) (z : Str), vs = [.int i, .str z, .int lo, .int hi] ∧ lo ≤ i ∧ i ≤ hi ∧ Q .non H
theorem scNeedNum : FnScope ["value", "part", "least", "most"] ["value", "part", "least", "most"] (defScope sNeedNum) := ⟨rfl, rfl, rfl, by decide +kernel, rfl, by decide +kernel, by decide +kernel⟩
theorem ok_neednum {f f1 : Addr} {fd fd1 : FuncData} (D : Df K mg "need_number" sNeedNum f fd ["value", "part", "least", "most"]) (D1 : Df K mg "is_within" sWithin f1 fd1 ["value", "least", "most"])
    (G1 : FnOk P w K mg base CX0 2 f1 fd1 ["value", "least", "most"] spWithin) : FnOk P w K mg base CX0 3 f fd ["value", "part", "least", "most"] spNeedNum := by
  refine D.fn.ok scNeedNum (fun vs H Q E h => ?_) (fun cdv A outer s H vs Q E hr h => ?_)
  · obtain ⟨i, lo, hi, z, rfl, _⟩ := h
    rfl
  · obtain ⟨i, lo, hi, z, rfl, h1, h2, q⟩ := h
    refine ⟨_, pss_one (ps_if (pt_not (pt_val (pe_call G1 hr (by rfl) D1.gl D1.fn.kp D1.bd .nil pass0 (pa_cons (pv 0) (pa_cons (pv 2) (pa_cons (pv 3) pa_nil)))))) pss_never pss_nil), ?_⟩
    exact ⟨.int i, rfl, .int lo, rfl, .int hi, rfl, i, lo, hi, rfl, h1, h2, true, rfl, iteF q⟩
/-! ### is_signs, is_word, need_word: of words -/
def spSigns : Sp := fun vs H Q _ => ∃ u : W, vs = [.str (S u)] ∧ u.length ≤ 1000 ∧ ∀ H1, Same H H1 → Q (.bl true) H1
theorem scSigns : FnScope ["value", "sign"] ["value"] (defScope sSigns) := ⟨rfl, rfl, rfl, by decide +kernel, rfl, by decide +kernel, by decide +kernel⟩
theorem ok_signs {f : Addr} {fd : FuncData} (D : Df K mg "is_signs" sSigns f fd ["value"]) (B : Bl mg) : FnOk P w K mg base CX0 1 f fd ["value"] spSigns := by
  obtain ⟨tS, mS⟩ := B.signs
  refine D.fn.ok scSigns (fun vs H Q E h => ?_) (fun cdv A outer s H vs Q E hr h => ?_)
  · obtain ⟨u, rfl, _⟩ := h
    rfl
  · obtain ⟨u, rfl, hu, q⟩ := h
    refine ⟨_, pss_one (ps_ret (pe_and (pe_callB call_isi (by rfl) B.isi (by decide +kernel) (pa_cons (pv 0) (pa_cons (pe_bltn (v := .ty "str") (by rfl) B.str (by decide +kernel) rfl) pa_nil)))
      (pe_one (pe_callB (cr_all rfl) (by rfl) B.all (by decide +kernel) (pa_cons
        (pe_lc (own := [("sign", 1)]) (g := gName 1) (tt := tYes) (by rfl) scSigns.nd (pi_str (pv 0)) (blkOk_by (own := [("sign", 1)]) (N := ["value", "sign"]) (sc := defScope sSigns) (by decide +kernel))
          (fun _ _ _ _ _ => pg_name (i := 1) scSigns.nd rfl (Or.inl rfl)) (fun _ _ _ _ _ => pts_nil)
          (fun _ _ _ _ _ => pe_cmpR op_in_sign (pv 1) (pe_glob (v := .str (S [false, true])) (by rfl) mS ⟨tS, rfl⟩) (by rfl))) pa_nil))))), ?_⟩
    refine ⟨.str (S u), rfl, .str (S u), .ty "str", .type "str", .type "str", true, rfl, .ty _, .base (.str _), kit_ty (by decide +kernel), true, rfl, iteT ?_⟩
    refine ⟨.str (S u), rfl, S u, rfl, fun L hL => ?_⟩
    refine lc_it walk_str (D := L) (Qd := fun H1 => rAll K [.ref L] H1 Q) (fun i H1 => Same H H1 ∧ H1 L = some (.lst (List.replicate i (V.bl true)))) ⟨same_upd hL, upd_same⟩ (fun _ _ _ _ => trivial) ?_ ?_
    · rintro i x H1 H2 hi ⟨sm, e1⟩ ⟨rfl, c, hc, rfl⟩
      have hi2 : i < u.length := by
        have := hi
        simpa [S] using this
      have hm : c ∈ (S [false, true]).cps.toList := by
        rw [S_at, List.getElem?_eq_getElem hi2] at hc
        have e2 : sg u[i] = c := Option.some.inj hc
        rw [← e2]
        cases u[i] <;> decide
      refine ⟨rfl, .str ⟨#[c]⟩, rfl, c, S [false, true], rfl, rfl, _, e1, ?_, ?_, ?_⟩
      · rw [List.length_replicate]
        exact small1000 (by omega)
      · exact fun b o e => by
          rw [upd_ne (ne_of_none e hL)]
          exact sm b o e
      · rw [upd_same, decide_eq_true hm, List.replicate_succ']
    · rintro H1 ⟨sm, e1⟩
      refine ⟨L, List.replicate (S u).cps.size true, rfl, .of (by rw [e1, List.map_replicate]), ?_⟩
      have e2 : (List.replicate (S u).cps.size true).all id = true := by simp
      rw [e2]
      exact q H1 sm
theorem dyck_step (d : Nat) (b : Bool) (r : W) (h : dyck d (b :: r) = true) : ∃ e : Nat, (if b = true then (d : Int) + 1 else (d : Int) - 1) = (e : Int) ∧ dyck e r = true := by
  cases b with
  | true => exact ⟨d + 1, by simp, by cases d <;> exact h⟩
  | false =>
    cases d with
    | zero => cases h
    | succ d => exact ⟨d, by simp, h⟩
def spIsWord : Sp := fun vs H Q _ => ∃ u : W, vs = [.str (S u)] ∧ isW u = true ∧ ∀ H1, Same H H1 → Q (.bl true) H1
theorem scIsWord : FnScope ["value", "deep", "sign"] ["value"] (defScope sIsWord) := ⟨rfl, rfl, rfl, by decide +kernel, rfl, by decide +kernel, by decide +kernel⟩
theorem drop_at {u : W} {i : Nat} (h : i < u.length) : u.drop i = u[i] :: u.drop (i + 1) := List.drop_eq_getElem_cons h
theorem sign_at {u : W} {i c : Nat} (h : i < u.length) (hc : (S u).cps[i]? = some c) : V.str ⟨#[c]⟩ = V.str (S [u[i]]) := by
  rw [S_at, List.getElem?_eq_getElem h] at hc
  have e : sg u[i] = c := Option.some.inj hc
  rw [← e] <;> rfl
theorem size_S (u : W) : (S u).cps.size = u.length := by simp [S]
theorem ok_isword {f f1 : Addr} {fd fd1 : FuncData} (D : Df K mg "is_word" sIsWord f fd ["value"]) (B : Bl mg) (D1 : Df K mg "is_signs" sSigns f1 fd1 ["value"]) (G1 : FnOk P w K mg base CX0 1 f1 fd1 ["value"] spSigns) :
    FnOk P w K mg base CX0 2 f fd ["value"] spIsWord := by
  obtain ⟨tM, mM⟩ := B.most
  refine D.fn.ok scIsWord (fun vs H Q E h => ?_) (fun cdv A outer s H vs Q E hr h => ?_)
  · obtain ⟨u, rfl, _⟩ := h
    rfl
  · obtain ⟨u, rfl, hu, q⟩ := h
    have nd := scIsWord.nd
    refine ⟨_, pss_cons (ps_if (PW.pt (pw_or (pt_not (pt_val (pe_call G1 hr (by rfl) D1.gl D1.fn.kp D1.bd .nil pass0 (pa_cons (pv 0) pa_nil))))
          (pw_or1 (pt_not (pt_chain op_le op_le pe_int (pe_callB call_len_str (by rfl) B.len PySem.boot_len (pa_cons (pv 0) pa_nil)) (pe_op op_mul pe_int (pe_glob (v := .int 200) (by rfl) mM ⟨tM, rfl⟩))))))) (pss_one (ps_ret pe_bl)) pss_nil)
      (pss_cons (ps_set (i := 1) nd rfl (Or.inl rfl) pe_int)
      (pss_cons (ps_for PassesOwn.never rfl (pi_str (pv 0)) (pg_name (i := 2) nd rfl (Or.inl rfl))
        (pss_cons (ps_set (i := 1) nd rfl (Or.inl rfl) (pe_ifExp (pt_cmpR op_eq (pv 2) pe_str (nomark _)) (pe_op op_add (pv 1) pe_int) (pe_op op_sub (pv 1) pe_int)))
          (pss_one (ps_if (pt_cmpR op_lt (pv 1) pe_int (nomark _)) (pss_one (ps_ret pe_bl)) pss_nil))))
      (pss_one (ps_ret (pe_cmpR op_eq (pv 1) pe_int (nomark _)))))), ?_⟩
    simp only [isW, Bool.and_eq_true] at hu
    obtain ⟨⟨h2, h4⟩, hd⟩ := hu
    have l2 : 2 ≤ u.length := Nat.le_of_ble_eq_true h2
    have l4 : u.length ≤ 400 := Nat.le_of_ble_eq_true h4
    refine ⟨.str (S u), rfl, u, rfl, by omega, fun H1 sm => ⟨true, rfl, ?_⟩⟩
    refine ⟨.str (S u), rfl, S u, rfl, ?_, ?_⟩
    · rw [S_len]
      exact Nat.le_of_lt (small1000 (by omega))
    refine ⟨2, ((S u).length : Int), rfl, rfl, _, rfl, ?_⟩
    have c1 : decide ((2 : Int) ≤ ((S u).length : Int)) = true := decide_eq_true (by rw [S_len]; omega)
    have c2 : decide (((S u).length : Int) ≤ 2 * 200) = true := decide_eq_true (by rw [S_len]; omega)
    refine ifT c1 ⟨2, 200, rfl, rfl, .inl ⟨by decide, by decide⟩, ((S u).length : Int), 2 * 200, rfl, rfl, _, rfl, ?_⟩
    refine ifF (by rw [c2]; decide) ?_
    -- deep = 0; the loop
    refine ⟨.str (S u), rfl, S u, rfl, ?_⟩
    refine for_it walk_str (fun i σ H2 => ∃ (d : Nat) (c : Option V), σ = [some (.str (S u)), some (.int (d : Int)), c] ∧ dyck d (u.drop i) = true ∧ Same H H2) ⟨0, none, rfl, hd, sm⟩ (fun _ _ _ _ _ => trivial) ?_ ?_
    · rintro i x σ H2 H3 hi ⟨d, c, rfl, hk, sm2⟩ ⟨rfl, cp, hc, rfl⟩
      have hi2 : i < u.length := by
        rw [← size_S u]
        exact hi
      rw [sign_at hi2 hc]
      rw [drop_at hi2] at hk
      obtain ⟨e, e1, e2⟩ := dyck_step d _ _ hk
      have one := S_is1 u[i]
      cases hb : u[i] with
      | true =>
        rw [hb] at one e1
        refine ⟨_, rfl, rfl, _, rfl, ifT one ⟨_, rfl, _, _, rfl, rfl, ?_⟩⟩
        refine ⟨_, rfl, _, _, rfl, rfl, _, rfl, ifF ?_ ?_⟩
        · rw [decide_eq_true_eq]
          omega
        · exact ⟨d + 1, _, rfl, by
            have e3 : e = d + 1 := by
              have e4 : (d : Int) + 1 = (e : Int) := e1
              omega
            rw [← e3]
            exact e2, sm2⟩
      | false =>
        rw [hb] at one e1
        have e4 : (d : Int) - 1 = (e : Int) := e1
        refine ⟨_, rfl, rfl, _, rfl, ifF (by rw [one]; decide) ⟨_, rfl, _, _, rfl, rfl, ?_⟩⟩
        refine ⟨_, rfl, _, _, rfl, rfl, _, rfl, ifF ?_ ?_⟩
        · rw [decide_eq_true_eq]
          omega
        · exact ⟨e, _, by rw [← e4] <;> rfl, e2, sm2⟩
    · rintro σ H2 ⟨d, c, rfl, hk, sm2⟩
      rw [size_S, List.drop_eq_nil_of_le (Nat.le_refl _)] at hk
      have d0 : d = 0 := by
        cases d with
        | zero => rfl
        | succ d => cases hk
      subst d0
      exact ⟨_, rfl, rfl, q H2 sm2⟩
def spNeedWord : Sp := fun vs H Q _ => ∃ (u : W) (z : Str), vs = [.str (S u), .str z] ∧ isW u = true ∧ ∀ H1, Same H H1 → Q .non H1
theorem scNeedWord : FnScope ["value", "part"] ["value", "part"] (defScope sNeedWord) := ⟨rfl, rfl, rfl, by decide +kernel, rfl, by decide +kernel, by decide +kernel⟩
abbrev FunNW (K : PySem.W.Frag) (f : Addr) (fd : FuncData) : Prop := FunD K "need_word" "need_word" (defArgs sNeedWord) (defBody sNeedWord) (defScope sNeedWord) [.str (Str.ofString "word")] [] f fd
theorem ok_needword {f f1 : Addr} {fd fd1 : FuncData} (F : FunNW K f fd) (D1 : Df K mg "is_word" sIsWord f1 fd1 ["value"]) (G1 : FnOk P w K mg base CX0 2 f1 fd1 ["value"] spIsWord) :
    FnOk P w K mg base CX0 3 f fd ["value", "part"] spNeedWord := by
  refine F.ok scNeedWord (fun vs H Q E h => ?_) (fun cdv A outer s H vs Q E hr h => ?_)
  · obtain ⟨u, z, rfl, _⟩ := h
    rfl
  · obtain ⟨u, z, rfl, hu, q⟩ := h
    refine ⟨_, pss_one (ps_if (pt_not (pt_val (pe_call G1 hr (by rfl) D1.gl D1.fn.kp D1.bd .nil pass0 (pa_cons (pv 0) pa_nil)))) pss_never pss_nil), ?_⟩
    exact ⟨.str (S u), rfl, u, rfl, hu, fun H1 sm => ⟨true, rfl, ifF (by decide) (q H1 sm)⟩⟩
theorem binds_needword {f : Addr} {fd : FuncData} (F : FunNW K f fd) : ∃ ds, Vals [V.str (Str.ofString "word")] ds ∧ Binds K fd ["value", "part"] ds := by
  obtain ⟨ds, h1, h2⟩ := F.binds1 (ps := ["value", "part"]) 1 0 (by simp) rfl (fun T kV doc pm an cdv ct us its hu hi => by
    match us, hu, its, hi with
    | [a], _, [b], _ => exact ⟨_, rfl, rfl⟩)
  exact ⟨ds, h1, h2⟩
end
end K15
namespace K15
open PySem PySem.Spec PyProof.Rows L2
section
variable {P : Program} {w : World} {K : PySem.W.Frag} {mg : Str → Option Value} {base : Heap}
/-! ### first_pair_in, turned_in, turns_in -/
theorem scan_step (d : Nat) (b : Bool) (r : W) (k : Nat) (h : scan d (b :: r) = some k) :
    ((if b = true then (d : Int) + 1 else (d : Int) - 1) = 0 ∧ k = 0) ∨ ∃ e k2 : Nat, 0 < e ∧ (if b = true then (d : Int) + 1 else (d : Int) - 1) = (e : Int) ∧ scan e r = some k2 ∧ k = k2 + 1 := by
  cases b with
  | true =>
    have h2 : (scan (d + 1) r).map (· + 1) = some k := by
      cases d <;> exact h
    obtain ⟨k2, e1, e2⟩ := Option.map_eq_some_iff.mp h2
    exact .inr ⟨d + 1, k2, by omega, by simp, e1, e2.symm⟩
  | false =>
    match d, h with
    | 0, h => cases h
    | 1, h =>
      have e : (0 : Nat) = k := Option.some.inj h
      exact .inl ⟨by decide, e.symm⟩
    | d + 2, h =>
      obtain ⟨k2, e1, e2⟩ := Option.map_eq_some_iff.mp (show (scan (d + 1) r).map (· + 1) = some k from h)
      exact .inr ⟨d + 1, k2, by omega, by simp; omega, e1, e2.symm⟩
theorem scan_lt : ∀ (r : W) (d k : Nat), scan d r = some k → k < r.length
  | [], d, k, h => by simp [scan] at h
  | b :: r, d, k, h => by
    rcases scan_step d b r k h with ⟨_, rfl⟩ | ⟨e, k2, _, _, h2, rfl⟩
    · simp
    · have := scan_lt r e k2 h2
      simp
      omega
/-- d + 1 if the sign is 1, else d - 1 -/
theorem deep_if {σ : L2.St} {H : Hp} {Q : VK} {i j : Nat} {d : Int} {b : Bool} (h1 : σ[i]? = some (some (.int d))) (h2 : σ[j]? = some (some (.str (S [b])))) (q : Q (.int (if b = true then d + 1 else d - 1)) H) :
    tIf (tTest (tOp rEq (tVar j) (tC (V.str (Str.ofString "1"))))) (tOp (rI0 fun i j => V.int (i + j)) (tVar i) (tC (V.int 1))) (tOp (rI0 fun i j => V.int (i - j)) (tVar i) (tC (V.int 1))) σ H Q := by
  have one := S_is1 b
  refine ⟨_, h2, rfl, _, rfl, ?_⟩
  cases b with
  | true => exact ifT one ⟨_, h1, _, _, rfl, rfl, q⟩
  | false => exact ifF (by rw [one]; decide) ⟨_, h1, _, _, rfl, rfl, q⟩
def spFirst : Sp := fun vs H Q _ => ∃ (u : W) (k : Nat), vs = [.str (S u)] ∧ scan 0 u = some k ∧ u.length ≤ 1000 ∧
  ∀ H1 p, Same H H1 → H p = none → H1 p = some (.tup [.str (S ((u.take k).drop 1)), .str (S (u.drop (k + 1)))]) → Q (.ref p) H1
theorem scFirst : FnScope ["word", "deep", "at", "sign"] ["word"] (defScope sFirst) := ⟨rfl, rfl, rfl, by decide +kernel, rfl, by decide +kernel, by decide +kernel⟩
theorem ok_first {f : Addr} {fd : FuncData} (D : Df K mg "first_pair_in" sFirst f fd ["word"]) (B : Bl mg) : FnOk P w K mg base CX0 1 f fd ["word"] spFirst := by
  refine D.fn.ok scFirst (fun vs H Q E h => ?_) (fun cdv A outer s H vs Q E hr h => ?_)
  · obtain ⟨u, k, rfl, _⟩ := h
    rfl
  · obtain ⟨u, k, rfl, hk, hu, q⟩ := h
    have nd := scFirst.nd
    have hz : (S u).length ≤ sizeLine := by
      rw [S_len]
      exact Nat.le_of_lt (small1000 (by omega))
    refine ⟨_, pss_cons (ps_set (i := 1) nd rfl (Or.inl rfl) pe_int)
      (pss_cons (ps_for PassesOwn.never rfl (pi_ets (by rfl) B.enu (pa_cons (pv 0) pa_nil)) (pg_tup rfl (pgs_cons (pg_name (i := 2) nd rfl (Or.inl rfl)) (pgs_cons (pg_name (i := 3) nd rfl (Or.inl rfl)) pgs_nil)))
        (pss_cons (ps_set (i := 1) nd rfl (Or.inl rfl) (pe_ifExp (pt_cmpR op_eq (pv 3) pe_str (nomark _)) (pe_op op_add (pv 1) pe_int) (pe_op op_sub (pv 1) pe_int)))
          (pss_one (ps_if (pt_cmpR op_eq (pv 1) pe_int (nomark _))
            (pss_one (ps_ret (pe_tup (pa_cons (pe_slice sl_str (pv 0) (po_some pe_int) (po_some (pv 2))) (pa_cons (pe_slice sl_str (pv 0) (po_some (pe_op op_add (pv 2) pe_int)) po_none) pa_nil))))) pss_nil))))
      pss_never), ?_⟩
    refine ⟨.str (S u), rfl, S u, rfl, ?_⟩
    refine for_it walk_ets (fun i σ H2 => ∃ (d k2 : Nat) (c1 c2 : Option V), σ = [some (.str (S u)), some (.int (d : Int)), c1, c2] ∧ scan d (u.drop i) = some k2 ∧ k = i + k2 ∧ Same H H2) ⟨0, k, none, none, rfl, hk, by omega, Same.refl H⟩ (fun _ _ _ _ _ => trivial) ?_ ?_
    · rintro i x σ H2 H3 hi ⟨d, k2, c1, c2, rfl, hs, ek, sm⟩ ⟨T, y1, y2, rfl, nT, rfl, e1, e2⟩
      have hi2 : i < u.length := by
        rw [← size_S u]
        exact hi
      cases e1
      obtain ⟨c, hc, rfl⟩ := Option.map_eq_some_iff.mp e2
      rw [sign_at hi2 hc]
      rw [drop_at hi2] at hs
      have smT : Same H (upd H2 T (.tup [.int (i : Nat), .str (S [u[i]])])) := sm.trans (same_upd nT)
      have one := S_is1 u[i]
      refine ⟨T, _, rfl, .of upd_same, rfl, _, _, rfl, _, _, rfl, rfl, ?_⟩
      refine deep_if (d := (d : Int)) (b := u[i]) rfl rfl ?_
      refine ⟨_, rfl, rfl, _, rfl, ?_⟩
      rcases scan_step d u[i] _ k2 hs with ⟨ez, rfl⟩ | ⟨e, k3, pe, ee, hs2, rfl⟩
      · have ek2 : k = i := by omega
        subst ek2
        refine ifT (by rw [decide_eq_true_eq, ez]) ?_
        refine ⟨.str (S u), rfl, 1, rfl, .int (k : Nat), rfl, (k : Nat), rfl, S u, rfl, hz, .str (S u), rfl, .int (k : Nat), rfl, _, _, rfl, rfl, ((k : Nat) : Int) + 1, rfl, S u, rfl, hz, ?_⟩
        refine ⟨by show 2 ≤ sizeLine; decide, fun p np => ?_⟩
        have e1 : cutS (S u) (some 1) (some ((k : Nat) : Int)) = S ((u.take k).drop 1) := S_cut u 1 k
        have e2 : cutS (S u) (some (((k : Nat) : Int) + 1)) none = S (u.drop (k + 1)) := S_cutFrom u (k + 1)
        exact q _ p (smT.trans (same_upd np)) (smT.free np) (by rw [upd_same, e1, e2])
      · refine ifF (by rw [decide_eq_true_eq, ee]; intro z; have := V.int.inj z; omega) ?_
        exact ⟨e, k3, _, _, by rw [← ee] <;> rfl, hs2, by omega, smT⟩
    · rintro σ H2 ⟨d, k2, c1, c2, rfl, hs, ek, sm⟩
      rw [size_S, List.drop_eq_nil_of_le (Nat.le_refl _)] at hs
      simp [scan] at hs
theorem scan_of_turn {u l : W} (h : turnO u = some l) : ∃ k, scan 0 u = some k ∧ k < u.length ∧ l = (u.take k).drop 1 ++ [true] ++ u.drop (k + 1) ++ [false] := by
  obtain ⟨k, r, rfl, h1, h2, rfl⟩ := turn_scan h
  exact ⟨k + 1, by simp [scan, h1], by simp; omega, by simp⟩
theorem S_small {u : W} {n : Nat} (h : u.length ≤ n) (hn : n ≤ 100000) : (S u).length ≤ sizeLine := by
  rw [S_len, sizeLine_eq]
  omega
def spTurned : Sp := fun vs H Q _ => ∃ u l : W, vs = [.str (S u)] ∧ turnO u = some l ∧ u.length ≤ 1000 ∧ ∀ H1, Same H H1 → Q (.str (S l)) H1
theorem scTurned : FnScope ["word", "ahead", "behind"] ["word"] (defScope sTurned) := ⟨rfl, rfl, rfl, by decide +kernel, rfl, by decide +kernel, by decide +kernel⟩
theorem ok_turned {f f1 : Addr} {fd fd1 : FuncData} (D : Df K mg "turned_in" sTurned f fd ["word"]) (D1 : Df K mg "first_pair_in" sFirst f1 fd1 ["word"]) (G1 : FnOk P w K mg base CX0 1 f1 fd1 ["word"] spFirst) :
    FnOk P w K mg base CX0 2 f fd ["word"] spTurned := by
  refine D.fn.ok scTurned (fun vs H Q E h => ?_) (fun cdv A outer s H vs Q E hr h => ?_)
  · obtain ⟨u, l, rfl, _⟩ := h
    rfl
  · obtain ⟨u, l, rfl, ht, hu, q⟩ := h
    have nd := scTurned.nd
    refine ⟨_, pss_cons (ps_asg (pe_call G1 hr (by rfl) D1.gl D1.fn.kp D1.bd .nil pass0 (pa_cons (pv 0) pa_nil)) (pg_tup rfl (pgs_cons (pg_name (i := 1) nd rfl (Or.inl rfl)) (pgs_cons (pg_name (i := 2) nd rfl (Or.inl rfl)) pgs_nil))))
      (pss_one (ps_ret (pe_joined (.cons (pe_fmt (pv 1)) (.cons pe_str (.cons (pe_fmt (pv 2)) (.cons pe_str .nil))))))), ?_⟩
    obtain ⟨k, hk, hlt, rfl⟩ := scan_of_turn ht
    refine ⟨.str (S u), rfl, u, k, rfl, hk, hu, fun H1 p sm np hp => ?_⟩
    refine ⟨p, _, rfl, .of hp, rfl, _, _, rfl, _, _, rfl, rfl, ?_⟩
    have l1 : ((u.take k).drop 1).length ≤ 1000 := by
      rw [List.length_drop, List.length_take]
      omega
    have l2 : (u.drop (k + 1)).length ≤ 1000 := by
      rw [List.length_drop]
      omega
    have e0 : Str.empty ++ S ((u.take k).drop 1) = S ((u.take k).drop 1) := by
      rw [show Str.empty = S [] from rfl, S_app]
      rfl
    have e1 : S ((u.take k).drop 1) ++ Str.ofString "1" = S ((u.take k).drop 1 ++ [true]) := by rw [S_one, S_app]
    have e3 : S ((u.take k).drop 1 ++ [true] ++ u.drop (k + 1)) ++ Str.ofString "0" = S ((u.take k).drop 1 ++ [true] ++ u.drop (k + 1) ++ [false]) := by rw [S_zero, S_app]
    refine ⟨_, rfl, .inl ⟨_, rfl, S_small l1 (by omega), _, rfl, ?_, ?_⟩⟩
    · rw [e0]
      exact S_small l1 (by omega)
    rw [e0]
    refine ⟨_, rfl, ?_, ?_⟩
    · rw [e1]
      exact S_small (n := 1001) (by rw [List.length_append]; simp only [List.length_singleton]; omega) (by omega)
    rw [e1]
    refine ⟨_, rfl, .inl ⟨_, rfl, S_small l2 (by omega), _, rfl, ?_, ?_⟩⟩
    · rw [S_app]
      exact S_small (n := 2001) (by rw [List.length_append, List.length_append]; simp only [List.length_singleton]; omega) (by omega)
    rw [S_app]
    refine ⟨_, rfl, ?_, ?_⟩
    · rw [e3]
      exact S_small (n := 2002) (by rw [List.length_append, List.length_append, List.length_append]; simp only [List.length_singleton]; omega) (by omega)
    rw [e3]
    exact q H1 sm
/-- some words as texts -/
def tx (l : List W) : List V := (l.map S).map V.str
theorem tx_len (l : List W) : (tx l).length = l.length := by simp [tx]
theorem tx_app (a b : List W) : tx (a ++ b) = tx a ++ tx b := by simp [tx]
theorem tx_cons (x : W) (a : List W) : tx (x :: a) = V.str (S x) :: tx a := rfl
theorem tx_get {l : List W} {i : Nat} {v : V} (h : (tx l)[i]? = some v) : ∃ hi : i < l.length, v = V.str (S l[i]) := by
  unfold tx at h
  rw [List.getElem?_map, List.getElem?_map] at h
  cases e : l[i]? with
  | none =>
    rw [e] at h
    cases h
  | some x =>
    rw [e] at h
    obtain ⟨hi, e2⟩ := List.getElem?_eq_some_iff.mp e
    exact ⟨hi, by rw [e2]; exact (Option.some.inj h).symm⟩
theorem turns_step {u l : W} {m : Nat} {rest : List W} (h : turnsO u m l = some rest) : ∃ f, m = f + 1 ∧ ((l = u ∧ rest = []) ∨ (l ≠ u ∧ ∃ l1 ts1, turnO l = some l1 ∧ turnsO u f l1 = some ts1 ∧ rest = l :: ts1)) := by
  cases m with
  | zero => simp [turnsO] at h
  | succ f =>
    refine ⟨f, rfl, ?_⟩
    unfold turnsO at h
    cases he : eqW l u with
    | true =>
      rw [he] at h
      exact .inl ⟨(eqW_iff l u).mp he, (Option.some.inj h).symm⟩
    | false =>
      rw [he] at h
      simp only [cond_false] at h
      refine .inr ⟨fun e => ?_, ?_⟩
      · rw [(eqW_iff l u).mpr e] at he
        cases he
      · cases ht : turnO l with
        | none => simp [ht] at h
        | some l1 =>
          simp only [ht] at h
          cases hr : turnsO u f l1 with
          | none => simp [hr] at h
          | some t1 =>
            simp only [hr] at h
            exact ⟨l1, t1, rfl, hr, (Option.some.inj h).symm⟩
/-- two tracked things that stay, a third that grows -/
theorem same_upd2 {H H1 : Hp} {p : Addr} {o : HO} (sm : Same H H1) (h : H p = none) : Same H (upd H1 p o) := fun b x e => by
  rw [upd_ne (ne_of_none e h)]
  exact sm b x e
def spTurns : Sp := fun vs H Q _ => ∃ (u : W) (ts : List W), vs = [.str (S u)] ∧ turnsOf u = some ts ∧ u.length ≤ 1000 ∧ ∀ H1 p, Same H H1 → H p = none → H1 p = some (.lst (tx ts)) → Q (.ref p) H1
theorem scTurns : FnScope ["word", "found", "later"] ["word"] (defScope sTurns) := ⟨rfl, rfl, rfl, by decide +kernel, rfl, by decide +kernel, by decide +kernel⟩
theorem ok_turns {f f1 : Addr} {fd fd1 : FuncData} (D : Df K mg "turns_in" sTurns f fd ["word"]) (D1 : Df K mg "turned_in" sTurned f1 fd1 ["word"]) (G1 : FnOk P w K mg base CX0 2 f1 fd1 ["word"] spTurned) :
    FnOk P w K mg base CX0 3 f fd ["word"] spTurns := by
  refine D.fn.ok scTurns (fun vs H Q E h => ?_) (fun cdv A outer s H vs Q E hr h => ?_)
  · obtain ⟨u, ts, rfl, _⟩ := h
    rfl
  · obtain ⟨u, ts, rfl, ht, hu, q⟩ := h
    have nd := scTurns.nd
    refine ⟨_, pss_cons (ps_par (i := 1) (j := 2) (by rfl) nd rfl rfl (by decide) rfl rfl (pa_cons (pe_lst (pa_cons (pv 0) pa_nil)) (pa_cons (pe_call G1 hr (by rfl) D1.gl D1.fn.kp D1.bd .nil pass0 (pa_cons (pv 0) pa_nil)) pa_nil)) (by rfl))
      (pss_cons (ps_while PassesOwn.never (pt_cmpR op_ne (pv 2) (pv 0) (nomark _))
        (pss_cons (ps_expr (pe_bm PySem.F.plainAttrs_list PySem.F.slot_list_append PySem.F.type_list_append mt_append (pv 1) (pa_cons (pv 2) pa_nil)))
          (pss_one (ps_set (i := 2) nd rfl (Or.inl rfl) (pe_call G1 hr (by rfl) D1.gl D1.fn.kp D1.bd .nil pass0 (pa_cons (pv 2) pa_nil))))))
      (pss_one (ps_ret (pv 1)))), ?_⟩
    obtain ⟨l0, rest0, h1, h2, rfl⟩ := turnsOf_spec ht
    have tl := (turnsOf_len ht).1
    refine ⟨.str (S u), rfl, by show 1 ≤ sizeLine; decide, fun fn nfn => ⟨.str (S u), rfl, u, l0, rfl, h1, hu, fun H1 sm1 => ?_⟩⟩
    have sm0 : Same H H1 := (same_upd nfn).trans sm1
    have hf1 : H1 fn = some (.lst (tx [u])) := sm1 fn _ upd_same
    refine ⟨_, _, rfl, ?_⟩
    refine ⟨fun m σ H2 => ∃ (l : W) (pre rest : List W), σ = [some (.str (S u)), some (.ref fn), some (.str (S l))] ∧ H2 fn = some (.lst (tx pre)) ∧ Same H H2 ∧ turnsO u m l = some rest ∧ u :: rest0 = pre ++ rest ∧ l.length = u.length,
      ⟨40, l0, [u], rest0, rfl, hf1, sm0, h2, rfl, turn_len h1⟩, ?_⟩
    rintro m σ H2 ⟨l, pre, rest, rfl, hf, sm, hr2, ets, hl⟩
    refine ⟨_, rfl, _, rfl, rfl, _, rfl, ?_⟩
    obtain ⟨g, rfl, ⟨rfl, rfl⟩ | ⟨hne, l1, ts1, ht1, hr3, rfl⟩⟩ := turns_step hr2
    · refine ifF (by simp) ?_
      rw [List.append_nil] at ets
      exact ⟨_, rfl, q H2 fn sm nfn (by rw [ets]; exact hf)⟩
    · have hne2 : ¬ (V.str (S l) = V.str (S u)) := fun e => hne (S_inj (V.str.inj e))
      refine ifT (by simp [hne2]) ?_
      refine ⟨fun σ2 H3 => ∃ (l : W) (pre rest : List W), σ2 = [some (.str (S u)), some (.ref fn), some (.str (S l))] ∧ H3 fn = some (.lst (tx pre)) ∧ Same H H3 ∧ turnsO u g l = some rest ∧ u :: rest0 = pre ++ rest ∧ l.length = u.length,
        fun σ2 H3 hN => ⟨g, Nat.lt_succ_self _, hN⟩, ?_⟩
      have lp : pre.length ≤ 41 := by
        have := congrArg List.length ets
        rw [List.length_append] at this
        omega
      refine ⟨.ref fn, rfl, .inl ⟨rfl, _, .of hf⟩, .str (S l), rfl, fn, _, _, rfl, rfl, hf, ?_, ?_⟩
      · rw [tx_len]
        exact small1000 (by omega)
      · refine ⟨.str (S l), rfl, l, l1, rfl, ht1, by omega, fun H3 sm3 => ?_⟩
        refine ⟨l1, pre ++ [l], ts1, rfl, ?_, (same_upd2 sm nfn).trans sm3, hr3, by rw [ets]; simp, (turn_len ht1).trans hl⟩
        rw [tx_app]
        exact sm3 fn _ upd_same
end
end K15
namespace K15
open PySem PySem.Spec PyProof.Rows L2
/-! ### numbers -/
theorem lots_tab : (List.range 21).all (fun m => (List.range 21).all fun t => decide (-(1000000 : Int) ≤ lotsI (m : Int) t) && decide (lotsI (m : Int) t ≤ 1000000)) = true := by decide +kernel
theorem lots_small {m t : Nat} (hm : m ≤ 20) (ht : t ≤ 20) : -(1000000 : Int) ≤ lotsI (m : Int) t ∧ lotsI (m : Int) t ≤ 1000000 := by
  have h1 := List.all_eq_true.mp lots_tab m (List.mem_range.mpr (by omega))
  have h2 := List.all_eq_true.mp h1 t (List.mem_range.mpr (by omega))
  rw [Bool.and_eq_true, decide_eq_true_eq, decide_eq_true_eq] at h2
  exact h2
theorem fmod_nat (a b : Nat) : ((a : Int)).fmod (b : Int) = ((a % b : Nat) : Int) := by
  rw [Int.fmod_eq_emod_of_nonneg _ (Int.natCast_nonneg b), Int.natCast_emod]
theorem fdiv_nat (a b : Nat) : ((a : Int)).fdiv (b : Int) = ((a / b : Nat) : Int) := by
  rw [Int.fdiv_eq_ediv_of_nonneg _ (Int.natCast_nonneg b), Int.natCast_ediv]
section
variable {P : Program} {w : World} {K : PySem.W.Frag} {mg : Str → Option Value} {base : Heap}
def spLots : Sp := fun vs H Q _ => ∃ (m : Nat) (k : Int), vs = [.int m, .int k] ∧ m ≤ 20 ∧ k ≤ 20 ∧ Q (.int (lotsV m k)) H
theorem scLots : FnScope ["many", "some", "found", "turn"] ["many", "some"] (defScope sLots) := ⟨rfl, rfl, rfl, by decide +kernel, rfl, by decide +kernel, by decide +kernel⟩
theorem ok_lots {f : Addr} {fd : FuncData} (D : Df K mg "lots" sLots f fd ["many", "some"]) (B : Bl mg) : FnOk P w K mg base CX0 1 f fd ["many", "some"] spLots := by
  refine D.fn.ok scLots (fun vs H Q E h => ?_) (fun cdv A outer s H vs Q E hr h => ?_)
  · obtain ⟨m, k, rfl, _⟩ := h
    rfl
  · obtain ⟨m, k, rfl, hm, hk, q⟩ := h
    have nd := scLots.nd
    refine ⟨_, pss_cons (ps_if (pt_cmpR op_lt (pv 1) pe_int (nomark _)) (pss_one (ps_ret pe_int)) pss_nil)
      (pss_cons (ps_set (i := 2) nd rfl (Or.inl rfl) pe_int)
      (pss_cons (ps_for PassesOwn.never rfl (pi_range1 (by rfl) B.rng (pa_cons (pv 1) pa_nil)) (pg_name (i := 3) nd rfl (Or.inl rfl))
        (pss_one (ps_set (i := 2) nd rfl (Or.inl rfl) (pe_op op_fdivN (pe_op op_mul (pv 2) (pe_op op_sub (pv 0) (pv 3))) (pe_op op_add (pv 3) pe_int)))))
      (pss_one (ps_ret (pv 2))))), ?_⟩
    refine ⟨_, rfl, _, _, rfl, rfl, _, rfl, ite2 (fun e => ?_) (fun e => ?_)⟩
    · have e1 : k < 0 := of_decide_eq_true e
      unfold lotsV at q
      rw [if_pos e1] at q
      exact q
    · have e1 : ¬ k < 0 := fun z => e (decide_eq_true z)
      unfold lotsV at q
      rw [if_neg e1] at q
      refine ⟨_, rfl, k, rfl, by omega, by omega, for_range (fun i σ H2 => ∃ c : Option V, σ = [some (.int (m : Int)), some (.int k), some (.int (lotsI (m : Int) i)), c] ∧ H2 = H) ⟨none, rfl, rfl⟩ ?_ ?_⟩
      · rintro i σ H2 hi ⟨c, rfl, rfl⟩
        have hb := lots_small (m := m) (t := i) hm (by omega)
        refine ⟨_, rfl, _, rfl, _, rfl, _, _, rfl, rfl, _, _, rfl, rfl, .inl ⟨by omega, by omega⟩, _, rfl, _, _, rfl, rfl, _, _, rfl, rfl, ⟨by omega, by omega⟩, ?_⟩
        refine ⟨some (.int (0 + (i : Int))), ?_, rfl⟩
        have e0 : (0 : Int) + (i : Int) = (i : Int) := by omega
        rw [e0]
        rfl
      · rintro σ H2 ⟨c, rfl, rfl⟩
        exact ⟨_, rfl, q⟩
def spWays : Sp := fun vs H Q _ => ∃ a b : Nat, vs = [.int a, .int b] ∧ a ≤ 10 ∧ b ≤ 10 ∧ Q (.int (waysV a b)) H
theorem scWays : FnScope ["ones", "zeros"] ["ones", "zeros"] (defScope sWays) := ⟨rfl, rfl, rfl, by decide +kernel, rfl, by decide +kernel, by decide +kernel⟩
theorem ok_ways {f f1 : Addr} {fd fd1 : FuncData} (D : Df K mg "ways_on" sWays f fd ["ones", "zeros"]) (D1 : Df K mg "lots" sLots f1 fd1 ["many", "some"]) (G1 : FnOk P w K mg base CX0 1 f1 fd1 ["many", "some"] spLots) :
    FnOk P w K mg base CX0 2 f fd ["ones", "zeros"] spWays := by
  refine D.fn.ok scWays (fun vs H Q E h => ?_) (fun cdv A outer s H vs Q E hr h => ?_)
  · obtain ⟨a, b, rfl, _⟩ := h
    rfl
  · obtain ⟨a, b, rfl, ha, hb, q⟩ := h
    refine ⟨_, pss_one (ps_ret (pe_op op_sub (pe_call G1 hr (by rfl) D1.gl D1.fn.kp D1.bd .nil pass0 (pa_cons (pe_op op_add (pv 0) (pv 1)) (pa_cons (pv 0) pa_nil)))
      (pe_call G1 hr (by rfl) D1.gl D1.fn.kp D1.bd .nil pass0 (pa_cons (pe_op op_add (pv 0) (pv 1)) (pa_cons (pe_op op_sub (pv 0) pe_int) pa_nil))))), ?_⟩
    have e : ((a + b : Nat) : Int) = (a : Int) + (b : Int) := by omega
    refine ⟨_, rfl, _, rfl, _, _, rfl, rfl, _, rfl, a + b, (a : Int), by rw [e] <;> rfl, by omega, by omega, ?_⟩
    refine ⟨_, rfl, _, rfl, _, _, rfl, rfl, _, rfl, _, _, rfl, rfl, a + b, (a : Int) - 1, by rw [e] <;> rfl, by omega, by omega, ?_⟩
    rw [e]
    exact ⟨_, _, rfl, rfl, q⟩
def spAllIn : Sp := fun vs H Q _ => ∃ a : Nat, vs = [.int a] ∧ a ≤ 10 ∧ Q (.int (allInV a)) H
theorem scAllIn : FnScope ["pairs"] ["pairs"] (defScope sAllIn) := ⟨rfl, rfl, rfl, by decide +kernel, rfl, by decide +kernel, by decide +kernel⟩
theorem ok_allin {f f1 : Addr} {fd fd1 : FuncData} (D : Df K mg "all_in" sAllIn f fd ["pairs"]) (D1 : Df K mg "ways_on" sWays f1 fd1 ["ones", "zeros"]) (G1 : FnOk P w K mg base CX0 2 f1 fd1 ["ones", "zeros"] spWays) :
    FnOk P w K mg base CX0 3 f fd ["pairs"] spAllIn := by
  refine D.fn.ok scAllIn (fun vs H Q E h => ?_) (fun cdv A outer s H vs Q E hr h => ?_)
  · obtain ⟨a, rfl, _⟩ := h
    rfl
  · obtain ⟨a, rfl, ha, q⟩ := h
    refine ⟨_, pss_one (ps_ret (pe_call G1 hr (by rfl) D1.gl D1.fn.kp D1.bd .nil pass0 (pa_cons (pv 0) (pa_cons (pv 0) pa_nil)))), ?_⟩
    exact ⟨_, rfl, _, rfl, a, a, rfl, ha, ha, q⟩
def spCommon : Sp := fun vs H Q _ => ∃ a b : Nat, vs = [.int a, .int b] ∧ Q (.bl (decide (1 < Nat.gcd a b))) H
theorem scCommon : FnScope ["one", "other"] ["one", "other"] (defScope sCommon) := ⟨rfl, rfl, rfl, by decide +kernel, rfl, by decide +kernel, by decide +kernel⟩
theorem ok_common {f : Addr} {fd : FuncData} (D : Df K mg "has_common" sCommon f fd ["one", "other"]) : FnOk P w K mg base CX0 1 f fd ["one", "other"] spCommon := by
  refine D.fn.ok scCommon (fun vs H Q E h => ?_) (fun cdv A outer s H vs Q E hr h => ?_)
  · obtain ⟨a, b, rfl, _⟩ := h
    rfl
  · obtain ⟨a, b, rfl, q⟩ := h
    have nd := scCommon.nd
    refine ⟨_, pss_cons (ps_while PassesOwn.never (pt_cmpR op_gt (pv 1) pe_int (nomark _))
        (pss_one (ps_par (i := 0) (j := 1) (by rfl) nd rfl rfl (by decide) rfl rfl (pa_cons (pv 1) (pa_cons (pe_op op_modN (pv 0) (pv 1)) pa_nil)) (by rfl))))
      (pss_one (ps_ret (pe_cmpR op_gt (pv 0) pe_int (nomark _)))), ?_⟩
    refine ⟨fun m σ H2 => ∃ x : Nat, σ = [some (.int (x : Int)), some (.int (m : Int))] ∧ Nat.gcd x m = Nat.gcd a b ∧ H2 = H, ⟨b, a, rfl, rfl, rfl⟩, ?_⟩
    rintro m σ H2 ⟨x, rfl, hg, rfl⟩
    refine ⟨_, rfl, _, _, rfl, rfl, _, rfl, ite2 (fun e => ?_) (fun e => ?_)⟩
    · have e1 : (0 : Int) < (m : Int) := of_decide_eq_true e
      refine ⟨fun σ2 H3 => ∃ x : Nat, σ2 = [some (.int (m : Int)), some (.int ((x % m : Nat) : Int))] ∧ Nat.gcd m (x % m) = Nat.gcd a b ∧ H3 = H2, fun σ2 H3 ⟨y, e2, e3, e4⟩ => ⟨y % m, Nat.mod_lt _ (by omega), m, e2, e3, e4⟩, ?_⟩
      refine ⟨_, rfl, _, rfl, _, rfl, _, _, rfl, rfl, by omega, _, _, rfl, x, ?_, ?_, rfl⟩
      · show [some (V.int (m : Int)), some (V.int ((x : Int).fmod (m : Int)))] = _
        rw [fmod_nat]
      · rw [← hg, Nat.gcd_comm x m, Nat.gcd_rec m x, Nat.gcd_comm]
    · have e1 : m = 0 := by
        have : ¬ (0 : Int) < (m : Int) := fun z => e (decide_eq_true z)
        omega
      subst e1
      rw [Nat.gcd_zero_right] at hg
      refine ⟨_, rfl, _, _, rfl, rfl, ?_⟩
      have e2 : decide ((1 : Int) < (x : Int)) = decide (1 < Nat.gcd a b) := by
        rw [← hg]
        exact decide_eq_decide.mpr (by omega)
      rw [← e2] at q
      exact q
def spApart : Sp := fun vs H Q _ => ∃ n : Nat, vs = [.int n] ∧ n ≤ 20 ∧ ∀ H1, Same H H1 → Q (.int ((apartN n : Nat) : Int)) H1
theorem scApart : FnScope ["number", "each"] ["number"] (defScope sApart) := ⟨rfl, rfl, rfl, by decide +kernel, rfl, by decide +kernel, by decide +kernel⟩
theorem range_filter (p : Nat → Bool) (i : Nat) : ((List.range (i + 1)).filter p).length = ((List.range i).filter p).length + (if p i = true then 1 else 0) := by
  rw [List.range_succ, List.filter_append, List.length_append]
  cases h : p i <;> simp [h]
theorem ok_apart {f f1 : Addr} {fd fd1 : FuncData} (D : Df K mg "how_many_apart" sApart f fd ["number"]) (B : Bl mg) (D1 : Df K mg "has_common" sCommon f1 fd1 ["one", "other"]) (G1 : FnOk P w K mg base CX0 1 f1 fd1 ["one", "other"] spCommon) :
    FnOk P w K mg base CX0 2 f fd ["number"] spApart := by
  refine D.fn.ok scApart (fun vs H Q E h => ?_) (fun cdv A outer s H vs Q E hr h => ?_)
  · obtain ⟨n, rfl, _⟩ := h
    rfl
  · obtain ⟨n, rfl, hn, q⟩ := h
    have nd := scApart.nd
    refine ⟨_, pss_one (ps_ret (pe_callB call_len_seq (by rfl) B.len PySem.boot_len (pa_cons
      (pe_lc (own := [("each", 1)]) (g := gName 1) (by rfl) nd (pi_range2 (by rfl) B.rng (pa_cons pe_int (pa_cons (pe_op op_add (pv 0) pe_int) pa_nil))) (blkOk_by (own := [("each", 1)]) (N := ["number", "each"]) (sc := defScope sApart) (by decide +kernel))
        (fun _ _ _ _ _ => pg_name (i := 1) nd rfl (Or.inl rfl))
        (fun _ _ _ _ _ => pts_one (pt_not (pt_val (pe_call G1 hr (by rfl) D1.gl D1.fn.kp D1.bd .nil pass0 (pa_cons (pv 0) (pa_cons (pv 1) pa_nil))))))
        (fun _ _ _ _ _ => pv 1)) pa_nil))), ?_⟩
    refine ⟨_, rfl, _, _, rfl, rfl, 1, (n : Int) + 1, rfl, ⟨by omega, by omega, by omega, by omega⟩, fun L hL => ?_⟩
    have et : (((n : Int) + 1) - 1).toNat = n := by omega
    rw [et]
    refine lc_range (fun i H1 => Same H H1 ∧ ∃ xs : List V, H1 L = some (.lst xs) ∧ xs.length = ((List.range i).filter fun j => !decide (1 < Nat.gcd n (j + 1))).length) ⟨same_upd hL, [], upd_same, rfl⟩ ?_ ?_
    · rintro i H1 hi ⟨sm, xs, e1, e2⟩
      have ei : (1 : Int) + (i : Int) = ((i + 1 : Nat) : Int) := by omega
      refine ⟨rfl, _, rfl, _, rfl, n, i + 1, by rw [ei] <;> rfl, _, rfl, ?_⟩
      have rf := range_filter (fun j => !decide (1 < Nat.gcd n (j + 1))) i
      refine ite2 (fun e => ?_) (fun e => ?_)
      · rw [if_pos e] at rf
        refine ⟨_, rfl, xs, e1, small1000 (by
          rw [e2]
          have := List.length_filter_le (fun j => !decide (1 < Nat.gcd n (j + 1))) (List.range i)
          rw [List.length_range] at this
          omega), same_upd2 sm hL, xs ++ [_], upd_same, ?_⟩
        rw [List.length_append, e2, rf] <;> rfl
      · rw [if_neg e] at rf
        exact ⟨sm, xs, e1, by rw [e2, rf, Nat.add_zero]⟩
    · rintro H1 ⟨sm, xs, e1, e2⟩
      refine ⟨L, xs, rfl, .inl (.of e1), ?_⟩
      rw [e2]
      exact q H1 sm
theorem apart_le (n : Nat) : apartN n ≤ n := by
  unfold apartN
  have := List.length_filter_le (fun i => !decide (1 < Nat.gcd n (i + 1))) (List.range n)
  rw [List.length_range] at this
  exact this
def spPlace : Sp := fun vs H Q _ => ∃ n : Nat, vs = [.int n] ∧ 1 ≤ n ∧ n ≤ 9 ∧ ∀ H1, Same H H1 → Q (.int (placeV n)) H1
theorem scPlace : FnScope ["pairs", "found", "part"] ["pairs"] (defScope sPlace) := ⟨rfl, rfl, rfl, by decide +kernel, rfl, by decide +kernel, by decide +kernel⟩
theorem ok_place {f f1 f2 : Addr} {fd fd1 fd2 : FuncData} (D : Df K mg "with_place" sPlace f fd ["pairs"]) (B : Bl mg) (D1 : Df K mg "how_many_apart" sApart f1 fd1 ["number"]) (G1 : FnOk P w K mg base CX0 2 f1 fd1 ["number"] spApart)
    (D2 : Df K mg "lots" sLots f2 fd2 ["many", "some"]) (G2 : FnOk P w K mg base CX0 1 f2 fd2 ["many", "some"] spLots) : FnOk P w K mg base CX0 3 f fd ["pairs"] spPlace := by
  refine D.fn.ok scPlace (fun vs H Q E h => ?_) (fun cdv A outer s H vs Q E hr h => ?_)
  · obtain ⟨n, rfl, _⟩ := h
    rfl
  · obtain ⟨n, rfl, h1, h9, q⟩ := h
    have nd := scPlace.nd
    have hr1 : Room 1 _ := hr.mono (by decide)
    refine ⟨_, pss_cons (ps_set (i := 1) nd rfl (Or.inl rfl) pe_int)
      (pss_cons (ps_for PassesOwn.never rfl (pi_range2 (by rfl) B.rng (pa_cons pe_int (pa_cons (pe_op op_add (pv 0) pe_int) pa_nil))) (pg_name (i := 2) nd rfl (Or.inl rfl))
        (pss_one (ps_if (pt_cmpR op_eq (pe_op op_modN (pv 0) (pv 2)) pe_int (nomark _))
          (pss_one (ps_set (i := 1) nd rfl (Or.inl rfl) (pe_op op_add (pv 1) (pe_op op_mul (pe_call G1 hr (by rfl) D1.gl D1.fn.kp D1.bd .nil pass0 (pa_cons (pe_op op_fdivN (pv 0) (pv 2)) pa_nil))
            (pe_call G2 hr1 (by rfl) D2.gl D2.fn.kp D2.bd .nil pass0 (pa_cons (pe_op op_mul pe_int (pv 2)) (pa_cons (pv 2) pa_nil))))))) pss_nil)))
      (pss_one (ps_ret (pe_op op_fdivN (pv 1) (pe_op op_mul pe_int (pv 0)))))), ?_⟩
    refine ⟨_, rfl, _, _, rfl, rfl, 1, (n : Int) + 1, rfl, ⟨by omega, by omega, by omega, by omega⟩, ?_⟩
    have et : (((n : Int) + 1) - 1).toNat = n := by omega
    rw [et]
    refine for_range (fun i σ H1 => ∃ c : Option V, σ = [some (.int (n : Int)), some (.int (placeSum n i)), c] ∧ Same H H1) ⟨none, rfl, Same.refl H⟩ ?_ ?_
    · rintro i σ H1 hi ⟨c, rfl, sm⟩
      have ei : (1 : Int) + (i : Int) = ((i + 1 : Nat) : Int) := by omega
      rw [ei]
      refine ⟨_, rfl, _, rfl, _, _, rfl, rfl, by omega, rfl, _, rfl, ?_⟩
      have em : ((n : Int)).fmod ((i + 1 : Nat) : Int) = ((n % (i + 1) : Nat) : Int) := fmod_nat n (i + 1)
      refine ite2 (fun e => ?_) (fun e => ?_)
      · have e1 : V.int (((n : Int)).fmod ((i + 1 : Nat) : Int)) = V.int 0 := of_decide_eq_true e
        rw [em] at e1
        have e2 : n % (i + 1) = 0 := by
          have := V.int.inj e1
          omega
        refine ⟨_, rfl, _, rfl, _, rfl, _, _, rfl, rfl, ⟨by omega, by omega⟩, n / (i + 1), ?_, ?_, fun H2 sm2 => ?_⟩
        · show [V.int ((n : Int).fdiv ((i + 1 : Nat) : Int))] = _
          rw [fdiv_nat]
        · have := Nat.div_le_self n (i + 1)
          omega
        · have ha := apart_le (n / (i + 1))
          have hd := Nat.div_le_self n (i + 1)
          refine ⟨_, rfl, _, _, rfl, rfl, .inl ⟨by decide, by decide⟩, _, rfl, 2 * (i + 1), ((i + 1 : Nat) : Int), ?_, by omega, by omega, ?_⟩
          · show [V.int (2 * ((i + 1 : Nat) : Int)), V.int ((i + 1 : Nat) : Int)] = [V.int ((2 * (i + 1) : Nat) : Int), V.int ((i + 1 : Nat) : Int)]
            rw [Int.natCast_mul] <;> rfl
          refine ⟨_, _, rfl, rfl, .inl ⟨by omega, by omega⟩, _, _, rfl, rfl, some (.int ((i + 1 : Nat) : Int)), ?_, sm.trans sm2⟩
          have ep : placeSum n (i + 1) = placeSum n i + ((apartN (n / (i + 1)) : Nat) : Int) * lotsV ((2 * (i + 1) : Nat) : Int) ((i + 1 : Nat) : Int) := by
            show (if n % (i + 1) = 0 then placeSum n i + ((apartN (n / (i + 1)) : Nat) : Int) * lotsV (2 * ((i : Int) + 1)) ((i : Int) + 1) else placeSum n i) = _
            rw [if_pos e2]
            congr 3
          rw [ep]
          rfl
      · have e2 : n % (i + 1) ≠ 0 := fun z => e (by
          show decide (V.int (((n : Int)).fmod ((i + 1 : Nat) : Int)) = V.int 0) = true
          rw [em, z]
          decide)
        refine ⟨some (.int ((i + 1 : Nat) : Int)), ?_, sm⟩
        have ep : placeSum n (i + 1) = placeSum n i := by
          show (if n % (i + 1) = 0 then _ else placeSum n i) = _
          rw [if_neg e2]
        rw [ep]
        rfl
    · rintro σ H1 ⟨c, rfl, sm⟩
      exact ⟨_, rfl, _, rfl, _, _, rfl, rfl, .inl ⟨by decide, by decide⟩, _, _, rfl, rfl, ⟨by omega, by omega⟩, q H1 sm⟩
def spTie : Sp := fun vs H Q _ => ∃ n : Nat, vs = [.int n] ∧ n ≤ 9 ∧ Q (.int (tieV n)) H
theorem scTie : FnScope ["pairs"] ["pairs"] (defScope sTie) := ⟨rfl, rfl, rfl, by decide +kernel, rfl, by decide +kernel, by decide +kernel⟩
theorem ok_tie {f f1 : Addr} {fd fd1 : FuncData} (D : Df K mg "with_tie" sTie f fd ["pairs"]) (D1 : Df K mg "all_in" sAllIn f1 fd1 ["pairs"]) (G1 : FnOk P w K mg base CX0 3 f1 fd1 ["pairs"] spAllIn) : FnOk P w K mg base CX0 4 f fd ["pairs"] spTie := by
  refine D.fn.ok scTie (fun vs H Q E h => ?_) (fun cdv A outer s H vs Q E hr h => ?_)
  · obtain ⟨n, rfl, _⟩ := h
    rfl
  · obtain ⟨n, rfl, hn, q⟩ := h
    refine ⟨_, pss_cons (ps_if (pt_cmpR op_eq (pe_op op_modN (pv 0) pe_int) pe_int (nomark _)) (pss_one (ps_ret (pe_op op_fdivN (pe_call G1 hr (by rfl) D1.gl D1.fn.kp D1.bd .nil pass0 (pa_cons (pv 0) pa_nil)) pe_int))) pss_nil)
      (pss_one (ps_ret (pe_op op_fdivN (pe_op op_add (pe_call G1 hr (by rfl) D1.gl D1.fn.kp D1.bd .nil pass0 (pa_cons (pv 0) pa_nil)) (pe_call G1 hr (by rfl) D1.gl D1.fn.kp D1.bd .nil pass0 (pa_cons (pe_op op_fdivN (pv 0) pe_int) pa_nil))) pe_int))), ?_⟩
    have em : ((n : Int)).fmod 2 = ((n % 2 : Nat) : Int) := fmod_nat n 2
    have ed : ((n : Int)).fdiv 2 = ((n / 2 : Nat) : Int) := fdiv_nat n 2
    unfold tieV at q
    refine ⟨_, rfl, _, _, rfl, rfl, (by show (2 : Int) ≠ 0; decide), rfl, _, rfl, ite2 (fun e => ?_) (fun e => ?_)⟩
    · have e1 : V.int (((n : Int)).fmod 2) = V.int 0 := of_decide_eq_true e
      rw [em] at e1
      have e2 : n % 2 = 0 := by
        have := V.int.inj e1
        omega
      rw [if_pos e2] at q
      exact ⟨_, rfl, n, rfl, by omega, _, _, rfl, rfl, ⟨by decide, by decide⟩, q⟩
    · have e2 : ¬ n % 2 = 0 := fun z => e (by
        show decide (V.int (((n : Int)).fmod 2) = V.int 0) = true
        rw [em, z]
        decide)
      rw [if_neg e2] at q
      refine ⟨_, rfl, n, rfl, by omega, _, rfl, _, _, rfl, rfl, ⟨by decide, by decide⟩, n / 2, ?_, by omega, _, _, rfl, rfl, _, _, rfl, rfl, ⟨by decide, by decide⟩, q⟩
      show [V.int ((n : Int).fdiv 2)] = _
      rw [ed]
def spHow : Sp := fun vs H Q _ => ∃ n : Nat, vs = [.int n] ∧ 1 ≤ n ∧ n ≤ 9 ∧ ∀ H1, Same H H1 → Q (.int (treesV n)) H1
theorem scHow : FnScope ["pairs"] ["pairs"] (defScope sHow) := ⟨rfl, rfl, rfl, by decide +kernel, rfl, by decide +kernel, by decide +kernel⟩
theorem ok_how {f f1 f2 f3 f4 : Addr} {fd fd1 fd2 fd3 fd4 : FuncData} (D : Df K mg "how_many_trees" sHow f fd ["pairs"]) (B : Bl mg) (D1 : Df K mg "need_number" sNeedNum f1 fd1 ["value", "part", "least", "most"]) (G1 : FnOk P w K mg base CX0 3 f1 fd1 ["value", "part", "least", "most"] spNeedNum)
    (D2 : Df K mg "with_place" sPlace f2 fd2 ["pairs"]) (G2 : FnOk P w K mg base CX0 3 f2 fd2 ["pairs"] spPlace) (D3 : Df K mg "with_tie" sTie f3 fd3 ["pairs"]) (G3 : FnOk P w K mg base CX0 4 f3 fd3 ["pairs"] spTie)
    (D4 : Df K mg "all_in" sAllIn f4 fd4 ["pairs"]) (G4 : FnOk P w K mg base CX0 3 f4 fd4 ["pairs"] spAllIn) : FnOk P w K mg base CX0 5 f fd ["pairs"] spHow := by
  obtain ⟨tM, mM⟩ := B.most
  refine D.fn.ok scHow (fun vs H Q E h => ?_) (fun cdv A outer s H vs Q E hr h => ?_)
  · obtain ⟨n, rfl, _⟩ := h
    rfl
  · obtain ⟨n, rfl, h1, h9, q⟩ := h
    have hr3 : Room 3 _ := hr.mono (by decide)
    refine ⟨_, pss_cons (ps_expr (pe_call G1 hr3 (by rfl) D1.gl D1.fn.kp D1.bd .nil pass0 (pa_cons (pv 0) (pa_cons pe_str (pa_cons pe_int (pa_cons (pe_glob (v := .int 200) (by rfl) mM ⟨tM, rfl⟩) pa_nil))))))
      (pss_one (ps_ret (pe_op op_sub (pe_op op_add (pe_call G2 hr3 (by rfl) D2.gl D2.fn.kp D2.bd .nil pass0 (pa_cons (pv 0) pa_nil)) (pe_call G3 hr (by rfl) D3.gl D3.fn.kp D3.bd .nil pass0 (pa_cons (pv 0) pa_nil)))
        (pe_call G4 hr3 (by rfl) D4.gl D4.fn.kp D4.bd .nil pass0 (pa_cons (pv 0) pa_nil))))), ?_⟩
    refine ⟨_, rfl, n, 1, 200, _, rfl, by omega, by omega, ?_⟩
    refine ⟨_, rfl, n, rfl, h1, h9, fun H1 sm => ⟨_, rfl, n, rfl, h9, _, _, rfl, rfl, _, rfl, n, rfl, by omega, _, _, rfl, rfl, q H1 sm⟩⟩
end
end K15
namespace K15
open PySem PySem.Spec PyProof.Rows L2
/-! ### the next word -/
theorem beh_pre (n : Nat) : ∀ (pre suf s : W) (used i : Nat), beh n (used + ones pre) (i + pre.length) suf = some s → beh n used i (pre ++ suf) = some (pre ++ s)
  | [], suf, s, used, i, h => h
  | true :: pre, suf, s, used, i, h => by
    have e : used + ones (true :: pre) = (used + 1) + ones pre := by
      simp only [ones, List.count_cons]
      simp
      omega
    have e2 : i + (true :: pre).length = (i + 1) + pre.length := by
      simp
      omega
    rw [e, e2] at h
    have ih := beh_pre n pre suf s (used + 1) (i + 1) h
    show (beh n (used + 1) (i + 1) (pre ++ suf)).map (true :: ·) = _
    rw [ih] <;> rfl
  | false :: pre, suf, s, used, i, h => by
    have e : used + ones (false :: pre) = used + ones pre := by
      simp only [ones, List.count_cons]
      simp
    have e2 : i + (false :: pre).length = (i + 1) + pre.length := by
      simp
      omega
    rw [e, e2] at h
    have ih := beh_pre n pre suf s used (i + 1) h
    simp only [List.cons_append, beh]
    rw [ih]
theorem ones_take {u : W} {a : Nat} (h : a < u.length) : ones (u.take (a + 1)) = ones (u.take a) + (if u[a] = true then 1 else 0) := by
  rw [List.take_succ_eq_append_getElem h]
  simp only [ones, List.count_append, List.count_cons, List.count_nil]
  cases u[a] <;> simp
theorem ones_le (u : W) : ones u ≤ u.length := List.count_le_length
theorem S_small2 {u v : W} {n : Nat} (h : u.length + v.length ≤ n) (hn : n ≤ 100000) : (S u).length + (S v).length ≤ sizeLine := by
  rw [S_len, S_len, sizeLine_eq]
  omega
def optV : Option W → V
  | some v => .str (S v)
  | none => .non
section
variable {P : Program} {w : World} {K : PySem.W.Frag} {mg : Str → Option Value} {base : Heap}
def spBehind : Sp := fun vs H Q _ => ∃ u : W, vs = [.str (S u)] ∧ u.length ≤ 100 ∧ Q (optV (behind u)) H
theorem scBehind : FnScope ["word", "ones", "at", "used", "deep"] ["word"] (defScope sBehind) := ⟨rfl, rfl, rfl, by decide +kernel, rfl, by decide +kernel, by decide +kernel⟩
theorem ok_behind {f : Addr} {fd : FuncData} (D : Df K mg "behind_in" sBehind f fd ["word"]) (B : Bl mg) : FnOk P w K mg base CX0 1 f fd ["word"] spBehind := by
  refine D.fn.ok scBehind (fun vs H Q E h => ?_) (fun cdv A outer s H vs Q E hr h => ?_)
  · obtain ⟨u, rfl, _⟩ := h
    rfl
  · obtain ⟨u, rfl, hu, q⟩ := h
    have nd := scBehind.nd
    have hz : (S u).length ≤ sizeLine := S_small hu (by omega)
    refine ⟨_, pss_cons (ps_set (i := 1) nd rfl (Or.inl rfl) (pe_op op_fdivN (pe_callB call_len_str (by rfl) B.len PySem.boot_len (pa_cons (pv 0) pa_nil)) pe_int))
      (pss_cons (ps_for PassesOwn.never rfl (pi_range3 (by rfl) B.rng (pa_cons (pe_op op_sub (pe_callB call_len_str (by rfl) B.len PySem.boot_len (pa_cons (pv 0) pa_nil)) pe_int) (pa_cons (pe_un un_neg pe_int) (pa_cons (pe_un un_neg pe_int) pa_nil)))) (pg_name (i := 2) nd rfl (Or.inl rfl))
        (pss_cons (ps_if (pt_cmpR op_eq (pe_ix ix_str (pv 0) (pv 2) (fun _ _ => rfl)) pe_str (nomark _)) (pss_one ps_continue) pss_nil)
        (pss_cons (ps_set (i := 3) nd rfl (Or.inl rfl) (pe_m1 PySem.F.slot_str_count PySem.F.type_str_count mt_count (pe_slice sl_str (pv 0) po_none (po_some (pv 2))) pe_str))
        (pss_one (ps_if (pt_cmpR op_lt (pv 3) (pv 1) (nomark _))
          (pss_cons (ps_set (i := 4) nd rfl (Or.inl rfl) (pe_op op_add (pe_op op_sub (pe_op op_mul pe_int (pv 3)) (pv 2)) pe_int))
            (pss_one (ps_ret (pe_op op_add_str (pe_op op_add_str (pe_op op_add_str (pe_slice sl_str (pv 0) po_none (po_some (pv 2))) pe_str) (pe_op op_repT pe_str (pv 4))) (pe_op op_repT pe_str (pe_op op_sub (pe_op op_sub (pv 1) (pv 3)) pe_int)))))) pss_nil)))))
      (pss_one (ps_ret pe_non))), ?_⟩
    refine ⟨_, rfl, S u, rfl, hz, _, _, rfl, rfl, ⟨by decide, by decide⟩, ?_⟩
    refine ⟨_, rfl, S u, rfl, hz, _, _, rfl, rfl, 1, rfl, 1, rfl, ((S u).length : Int) - 1, -1, -1, _, rfl, RgC.neg ?_ ?_ (by decide) (by decide), ?_⟩
    · rw [S_len]
      omega
    · rw [S_len]
      omega
    have en : (((S u).length : Int) - 1 - -1).toNat = u.length := by
      rw [S_len]
      omega
    rw [en]
    have eh : (((S u).length : Nat) : Int).fdiv 2 = ((u.length / 2 : Nat) : Int) := by
      rw [S_len]
      exact fdiv_nat u.length 2
    refine for_rangeC (fun i σ H2 => ∃ c1 c2 c3 : Option V, σ = [some (.str (S u)), some (.int ((u.length / 2 : Nat) : Int)), c1, c2, c3] ∧ beh (u.length / 2) (ones (u.take (u.length - i))) (u.length - i) (u.drop (u.length - i)) = none ∧ H2 = H) ⟨none, none, none, ?_, ?_, rfl⟩ ?_ ?_
    · show [some (V.str (S u)), some (V.int ((((S u).length : Nat) : Int).fdiv 2)), none, none, none] = _
      rw [eh]
    · rw [Nat.sub_zero, List.drop_eq_nil_of_le (Nat.le_refl _)] <;> rfl
    · rintro i σ H2 hi ⟨c1, c2, c3, rfl, hb, rfl⟩
      obtain ⟨a, ea, hla⟩ : ∃ a, u.length - i = a + 1 ∧ a < u.length := ⟨u.length - i - 1, by omega, by omega⟩
      have ea2 : u.length - (i + 1) = a := by omega
      have ei : ((S u).length : Int) - 1 + (i : Int) * -1 = (a : Int) := by
        rw [S_len]
        omega
      rw [ei, ea2]
      rw [ea] at hb
      have hd := drop_at hla
      have ot := ones_take hla
      have hat : (S u).cps.toList[a]? = some (sg u[a]) := by
        rw [S_cps, List.getElem?_map, List.getElem?_eq_getElem hla] <;> rfl
      have one := S_is1 u[a]
      refine ⟨_, rfl, _, rfl, S u, (a : Int), sg u[a], rfl, rfl, hz, atI_nat hat, rfl, _, rfl, ?_⟩
      cases hba : u[a] with
      | true =>
        rw [hba] at one hd ot
        refine ifT one ?_
        refine ⟨_, _, _, rfl, ?_, rfl⟩
        rw [hd]
        rw [if_pos rfl] at ot
        rw [ot] at hb
        show (beh (u.length / 2) (ones (u.take a) + 1) (a + 1) (u.drop (a + 1))).map (true :: ·) = none
        rw [hb] <;> rfl
      | false =>
        rw [hba] at one hd
        have ot2 : ones (u.take (a + 1)) = ones (u.take a) := by
          rw [ot, hba]
          simp
        rw [ot2] at hb
        refine ifF (fun z => by cases one.symm.trans z) ?_
        have cut : cutS (S u) none (some (a : Int)) = S (u.take a) := S_cutTo u a
        have hol := ones_le (u.take a)
        rw [List.length_take] at hol
        refine ⟨_, rfl, .int (a : Int), rfl, (a : Int), rfl, S u, rfl, hz, ⟨_, rfl⟩, _, _, rfl, rfl, ?_⟩
        rw [cut, S_count]
        refine ⟨_, rfl, _, rfl, _, _, rfl, rfl, _, rfl, ite2 (fun e => ?_) (fun e => ?_)⟩
        · have e1 : ones (u.take a) < u.length / 2 := by
            have := of_decide_eq_true e
            omega
          have hbeh : beh (u.length / 2) (ones (u.take a)) a (u.drop a) = some (true :: (rep0 (2 * ones (u.take a) + 1 - a) ++ tens (u.length / 2 - ones (u.take a) - 1))) := by
            rw [hd]
            simp only [beh, hb]
            have : Nat.blt (ones (u.take a)) (u.length / 2) = true := Nat.ble_eq_true_of_le e1
            rw [this] <;> rfl
          have hlen : (u.take a).length = a := by
            rw [List.length_take]
            omega
          have hall := beh_pre (u.length / 2) (u.take a) (u.drop a) _ 0 0 (by rw [Nat.zero_add, Nat.zero_add, hlen]; exact hbeh)
          rw [List.take_append_drop] at hall
          have eb : behind u = _ := hall
          rw [eb] at q
          refine ⟨_, rfl, _, _, rfl, rfl, .inl ⟨by decide, by decide⟩, _, rfl, _, _, rfl, rfl, _, _, rfl, rfl, ?_⟩
          refine ⟨_, rfl, .int (a : Int), rfl, (a : Int), rfl, S u, rfl, hz, _, _, rfl, rfl, ?_, ?_⟩
          · rw [cut, S_one]
            exact S_small2 (n := 200) (by simp only [List.length_singleton]; omega) (by omega)
          rw [cut, S_one, S_app]
          have d0 : ((2 : Int) * ((ones (u.take a) : Nat) : Int) - (a : Int) + 1).toNat = 2 * ones (u.take a) + 1 - a := by omega
          refine ⟨_, rfl, _, _, rfl, rfl, by omega, by omega, by decide, _, _, rfl, rfl, ?_, ?_⟩
          · rw [rep_zero]
            exact S_small2 (n := 1000) (by rw [List.length_append, List.length_replicate, d0, hlen]; simp only [List.length_singleton]; omega) (by omega)
          rw [rep_zero, S_app, d0]
          have t0 : (((u.length / 2 : Nat) : Int) - ((ones (u.take a) : Nat) : Int) - 1).toNat = u.length / 2 - ones (u.take a) - 1 := by omega
          refine ⟨_, rfl, _, rfl, _, _, rfl, rfl, _, _, rfl, rfl, _, _, rfl, rfl, by omega, by omega, by decide, _, _, rfl, rfl, ?_, ?_⟩
          · rw [rep_ten, t0, ← tens_eq]
            exact S_small2 (n := 1000) (by rw [List.length_append, List.length_append, List.length_replicate, tens_len, hlen]; simp only [List.length_singleton]; omega) (by omega)
          rw [rep_ten, S_app, t0, ← tens_eq, ← rep0_eq]
          have el : u.take a ++ [true] ++ rep0 (2 * ones (u.take a) + 1 - a) ++ tens (u.length / 2 - ones (u.take a) - 1) = u.take a ++ true :: (rep0 (2 * ones (u.take a) + 1 - a) ++ tens (u.length / 2 - ones (u.take a) - 1)) := by simp
          rw [el]
          exact q
        · have e1 : ¬ ones (u.take a) < u.length / 2 := fun z => e (decide_eq_true (by omega))
          refine ⟨_, _, _, rfl, ?_, rfl⟩
          rw [hd]
          simp only [beh, hb]
          have : Nat.blt (ones (u.take a)) (u.length / 2) = false := by
            cases c : Nat.blt (ones (u.take a)) (u.length / 2) with
            | false => rfl
            | true => exact absurd (Nat.le_of_ble_eq_true c) e1
          rw [this] <;> rfl
    · rintro σ H2 ⟨c1, c2, c3, rfl, hb, rfl⟩
      rw [Nat.sub_self] at hb
      have e : behind u = none := hb
      rw [e] at q
      exact q
theorem words_step {l : W} {m : Nat} {rest : List W} (h : wordsO m l = some rest) : ∃ f, m = f + 1 ∧ ((behind l = none ∧ rest = [l]) ∨ ∃ l1 r1, behind l = some l1 ∧ wordsO f l1 = some r1 ∧ rest = l :: r1) := by
  cases m with
  | zero => simp [wordsO] at h
  | succ f =>
    refine ⟨f, rfl, ?_⟩
    unfold wordsO at h
    cases hb : behind l with
    | none =>
      simp only [hb] at h
      exact .inl ⟨rfl, (Option.some.inj h).symm⟩
    | some l1 =>
      simp only [hb] at h
      cases hr : wordsO f l1 with
      | none => simp [hr] at h
      | some r1 =>
        simp only [hr] at h
        exact .inr ⟨l1, r1, rfl, hr, (Option.some.inj h).symm⟩
def spAllWords : Sp := fun vs H Q _ => ∃ (n fu : Nat) (ws : List W), vs = [.int n] ∧ 1 ≤ n ∧ n ≤ 9 ∧ wordsO fu (tens n) = some ws ∧ fu ≤ 10000 ∧ (∀ x ∈ ws, x.length ≤ 100) ∧ ∀ H1 p, Same H H1 → H p = none → H1 p = some (.tup (tx ws)) → Q (.ref p) H1
theorem scAllWords : FnScope ["pairs", "found", "word"] ["pairs"] (defScope sAllWords) := ⟨rfl, rfl, rfl, by decide +kernel, rfl, by decide +kernel, by decide +kernel⟩
theorem ok_allwords {f f1 f2 : Addr} {fd fd1 fd2 : FuncData} (D : Df K mg "all_words" sAllWords f fd ["pairs"]) (B : Bl mg) (D1 : Df K mg "need_number" sNeedNum f1 fd1 ["value", "part", "least", "most"]) (G1 : FnOk P w K mg base CX0 3 f1 fd1 ["value", "part", "least", "most"] spNeedNum)
    (D2 : Df K mg "behind_in" sBehind f2 fd2 ["word"]) (G2 : FnOk P w K mg base CX0 1 f2 fd2 ["word"] spBehind) : FnOk P w K mg base CX0 4 f fd ["pairs"] spAllWords := by
  obtain ⟨tM, mM⟩ := B.mostW
  refine D.fn.ok scAllWords (fun vs H Q E h => ?_) (fun cdv A outer s H vs Q E hr h => ?_)
  · obtain ⟨n, fu, ws, rfl, _⟩ := h
    rfl
  · obtain ⟨n, fu, ws, rfl, h1, h9, hw, hfu, hlen, q⟩ := h
    have nd := scAllWords.nd
    have hr1 : Room 1 _ := hr.mono (by decide)
    have hwl := wordsO_len fu (tens n) ws hw
    refine ⟨_, pss_cons (ps_expr (pe_call G1 hr (by rfl) D1.gl D1.fn.kp D1.bd .nil pass0 (pa_cons (pv 0) (pa_cons pe_str (pa_cons pe_int (pa_cons (pe_glob (v := .int 9) (by rfl) mM ⟨tM, rfl⟩) pa_nil))))))
      (pss_cons (ps_par (i := 1) (j := 2) (by rfl) nd rfl rfl (by decide) rfl rfl (pa_cons (pe_lst pa_nil) (pa_cons (pe_op op_repT pe_str (pv 0)) pa_nil)) (by rfl))
      (pss_cons (ps_while PassesOwn.never (pt_cmp (pc_notN (pv 2)))
        (pss_cons (ps_expr (pe_bm PySem.F.plainAttrs_list PySem.F.slot_list_append PySem.F.type_list_append mt_append (pv 1) (pa_cons (pv 2) pa_nil)))
          (pss_one (ps_set (i := 2) nd rfl (Or.inl rfl) (pe_call G2 hr1 (by rfl) D2.gl D2.fn.kp D2.bd .nil pass0 (pa_cons (pv 2) pa_nil))))))
      (pss_one (ps_ret (pe_callTy call_tuple_of (by rfl) B.tup (by decide +kernel) (pa_cons (pv 1) pa_nil)))))), ?_⟩
    refine ⟨_, rfl, n, 1, 9, _, rfl, by omega, by omega, ?_⟩
    refine ⟨Nat.zero_le _, fun fn nfn => ?_⟩
    refine ⟨_, rfl, _, _, rfl, rfl, by omega, by omega, by decide, _, _, rfl, ?_⟩
    have e0 : repS (Str.ofString "10") (n : Int) = S (tens n) := by
      rw [rep_ten, tens_eq] <;> rfl
    rw [e0]
    refine ⟨fun m σ H2 => ∃ (o : Option W) (pre : List W), σ = [some (.int (n : Int)), some (.ref fn), some (optV o)] ∧ H2 fn = some (.lst (tx pre)) ∧ Same H H2 ∧ ((o = none ∧ ws = pre) ∨ ∃ l rest, o = some l ∧ wordsO m l = some rest ∧ ws = pre ++ rest),
      ⟨fu, some (tens n), [], rfl, upd_same, same_upd nfn, .inr ⟨_, ws, rfl, hw, rfl⟩⟩, ?_⟩
    rintro m σ H2 ⟨o, pre, rfl, hf, sm, ho⟩
    refine ⟨_, rfl, _, rfl, ?_⟩
    rcases ho with ⟨rfl, rfl⟩ | ⟨l, rest, rfl, hr2, ews⟩
    · refine ifF (by decide) ?_
      refine ⟨_, rfl, fn, _, rfl, .inl ⟨.of hf, fun p np => q _ p (sm.trans (same_upd np)) (sm.free np) upd_same⟩⟩
    · refine ifT (by simp [optV]) ?_
      obtain ⟨g, rfl, hst⟩ := words_step hr2
      have hl : l ∈ ws := by
        rw [ews]
        rcases hst with ⟨_, e⟩ | ⟨_, r1, _, _, e⟩ <;> rw [e] <;> simp
      refine ⟨fun σ2 H3 => ∃ (o : Option W) (pre : List W), σ2 = [some (.int (n : Int)), some (.ref fn), some (optV o)] ∧ H3 fn = some (.lst (tx pre)) ∧ Same H H3 ∧ ((o = none ∧ ws = pre) ∨ ∃ l rest, o = some l ∧ wordsO g l = some rest ∧ ws = pre ++ rest),
        fun σ2 H3 hN => ⟨g, Nat.lt_succ_self _, hN⟩, ?_⟩
      have lp : pre.length ≤ 10000 := by
        have := congrArg List.length ews
        rw [List.length_append] at this
        omega
      refine ⟨.ref fn, rfl, .inl ⟨rfl, _, .of hf⟩, .str (S l), rfl, fn, _, _, rfl, rfl, hf, ?_, ?_⟩
      · rw [tx_len, sizeLine_eq]
        omega
      · refine ⟨.str (S l), rfl, l, rfl, hlen l hl, ?_⟩
        refine ⟨behind l, pre ++ [l], rfl, ?_, same_upd2 sm nfn, ?_⟩
        · rw [tx_app]
          exact upd_same
        · rcases hst with ⟨e1, rfl⟩ | ⟨l1, r1, e1, e2, rfl⟩
          · exact .inl ⟨e1, ews⟩
          · exact .inr ⟨l1, r1, e1, e2, by rw [ews]; simp⟩
end
end K15
namespace K15
open PySem PySem.Spec PyProof.Rows L2
/-! ### names, all trees -/
theorem least_one {ts : List W} {m t : W} (hm : m ∈ ts) (hl : leastB m ts = true) (ht : t ∈ ts) (h2 : ∀ y, y ∈ ts.map S → ¬ cpl y < cpl (S t)) : t = m := by
  rcases ltW_total t m with c | c | c
  · have := List.all_eq_true.mp hl t ht
    rw [c] at this
    cases this
  · exact c
  · exact absurd ((S_lt m t).mpr c) (h2 (S m) (List.mem_map.mpr ⟨m, hm, rfl⟩))
theorem marks_snoc : ∀ (l : List W) (m : Nat) (x : W), marks m (l ++ [x]) = marks m l ||| (1 <<< code x)
  | [], m, x => rfl
  | y :: l, m, x => marks_snoc l _ x
theorem trees_step {u : W} {r : List W} {m : Nat} {L : List (W × List W)} (h : treesB (u :: r) m = some L) :
    (m.testBit (code u) = true ∧ treesB r m = some L) ∨ (m.testBit (code u) = false ∧ ∃ ts L1, turnsOf u = some ts ∧ treesB r (marks m ts) = some L1 ∧ L = (u, ts) :: L1) := by
  unfold treesB at h
  cases hb : m.testBit (code u) with
  | true =>
    rw [hb] at h
    exact .inl ⟨rfl, h⟩
  | false =>
    rw [hb] at h
    simp only [cond_false] at h
    cases ht : turnsOf u with
    | none => simp [ht] at h
    | some ts =>
      simp only [ht] at h
      cases hr : treesB r (marks m ts) with
      | none => simp [hr] at h
      | some L1 =>
        simp only [hr] at h
        exact .inr ⟨rfl, ts, L1, rfl, hr, (Option.some.inj h).symm⟩
/-- the dict's keys are the words that the mask marks -/
def Met (kvs : List (Key × V)) (m : Nat) : Prop := ∀ x : W, (valV kvs (.inr (S x))).isSome = m.testBit (code x)
theorem met_nil : Met [] 0 := fun x => by simp [valV_nil]
theorem met_put {kvs : List (Key × V)} {m : Nat} (h : Met kvs m) (u : W) (v : V) : Met (putK kvs (.inr (S u)) v) (m ||| (1 <<< code u)) := fun x => by
  rw [valV_put, mark_bit, ← h x]
  by_cases e : u = x
  · subst e
    simp
  · have e2 : ¬ ((Sum.inr (S x) : Key) = Sum.inr (S u)) := fun z => e (S_inj (Sum.inr.inj z)).symm
    rw [if_neg e2]
    simp [e]
section
variable {P : Program} {w : World} {K : PySem.W.Frag} {mg : Str → Option Value} {base : Heap}
def spNameIn : Sp := fun vs H Q _ => ∃ (u m : W) (ts : List W), vs = [.str (S u)] ∧ turnsOf u = some ts ∧ u.length ≤ 1000 ∧ m ∈ ts ∧ leastB m ts = true ∧ ∀ H1, Same H H1 → Q (.str (S m)) H1
theorem scNameIn : FnScope ["word"] ["word"] (defScope sNameIn) := ⟨rfl, rfl, rfl, by decide +kernel, rfl, by decide +kernel, by decide +kernel⟩
theorem ok_namein {f f1 : Addr} {fd fd1 : FuncData} (D : Df K mg "name_in" sNameIn f fd ["word"]) (B : Bl mg) (D1 : Df K mg "turns_in" sTurns f1 fd1 ["word"]) (G1 : FnOk P w K mg base CX0 3 f1 fd1 ["word"] spTurns) :
    FnOk P w K mg base CX0 4 f fd ["word"] spNameIn := by
  refine D.fn.ok scNameIn (fun vs H Q E h => ?_) (fun cdv A outer s H vs Q E hr h => ?_)
  · obtain ⟨u, m, ts, rfl, _⟩ := h
    rfl
  · obtain ⟨u, m, ts, rfl, ht, hu, hm, hl, q⟩ := h
    refine ⟨_, pss_one (ps_ret (pe_callB (cr_leastS rfl) (by rfl) B.min (by decide +kernel) (pa_cons (pe_call G1 hr (by rfl) D1.gl D1.fn.kp D1.bd .nil pass0 (pa_cons (pv 0) pa_nil)) pa_nil))), ?_⟩
    refine ⟨_, rfl, u, ts, rfl, ht, hu, fun H1 p sm np hp => ⟨p, ts.map S, rfl, .of hp, ?_, fun z hz h2 => ?_⟩⟩
    · rw [List.length_map]
      exact (turnsOf_len ht).2.1
    · obtain ⟨t, ht2, rfl⟩ := List.mem_map.mp hz
      rw [least_one hm hl ht2 h2]
      exact q H1 sm
def spNameOf : Sp := fun vs H Q _ => ∃ (u m : W) (ts : List W), vs = [.str (S u)] ∧ isW u = true ∧ turnsOf u = some ts ∧ m ∈ ts ∧ leastB m ts = true ∧ ∀ H1, Same H H1 → Q (.str (S m)) H1
theorem scNameOf : FnScope ["word"] ["word"] (defScope sNameOf) := ⟨rfl, rfl, rfl, by decide +kernel, rfl, by decide +kernel, by decide +kernel⟩
theorem ok_nameof {f f1 f2 : Addr} {fd fd1 fd2 : FuncData} {ds : List Value} (D : Df K mg "name_of" sNameOf f fd ["word"]) (g1 : mg "need_word" = some (.ref f1)) (k1 : PySem.W.keepIn K (.ref f1) = true) (v1 : Vals [V.str (Str.ofString "word")] ds) (b1 : Binds K fd1 ["value", "part"] ds)
    (G1 : FnOk P w K mg base CX0 3 f1 fd1 ["value", "part"] spNeedWord) (D2 : Df K mg "name_in" sNameIn f2 fd2 ["word"]) (G2 : FnOk P w K mg base CX0 4 f2 fd2 ["word"] spNameIn) : FnOk P w K mg base CX0 5 f fd ["word"] spNameOf := by
  refine D.fn.ok scNameOf (fun vs H Q E h => ?_) (fun cdv A outer s H vs Q E hr h => ?_)
  · obtain ⟨u, m, ts, rfl, _⟩ := h
    rfl
  · obtain ⟨u, m, ts, rfl, hw, ht, hm, hl, q⟩ := h
    have hr3 : Room 3 _ := hr.mono (by decide)
    refine ⟨_, pss_cons (ps_expr (pe_call G1 hr3 (by rfl) g1 k1 b1 v1 pass0 (pa_cons (pv 0) pa_nil))) (pss_one (ps_ret (pe_call G2 hr (by rfl) D2.gl D2.fn.kp D2.bd .nil pass0 (pa_cons (pv 0) pa_nil)))), ?_⟩
    have hl4 : u.length ≤ 400 := by
      simp only [isW, Bool.and_eq_true] at hw
      exact Nat.le_of_ble_eq_true hw.1.2
    exact ⟨_, rfl, u, _, rfl, hw, fun H1 sm1 => ⟨_, rfl, u, m, ts, rfl, ht, by omega, hm, hl, fun H2 sm2 => q H2 (sm1.trans sm2)⟩⟩
def spAllTrees : Sp := fun vs H Q _ => ∃ (n fu : Nat) (ws : List W) (L : List (W × List W)), vs = [.int n] ∧ 1 ≤ n ∧ n ≤ 9 ∧ wordsO fu (tens n) = some ws ∧ fu ≤ 10000 ∧ (∀ x ∈ ws, x.length ≤ 100) ∧ treesB ws 0 = some L ∧
  ∀ H1 p, Same H H1 → H p = none → H1 p = some (.tup (tx (L.map (·.1)))) → Q (.ref p) H1
theorem scAllTrees : FnScope ["pairs", "found", "met", "word", "each"] ["pairs"] (defScope sAllTrees) := ⟨rfl, rfl, rfl, by decide +kernel, rfl, by decide +kernel, by decide +kernel⟩
theorem ok_alltrees {f f1 f2 f3 : Addr} {fd fd1 fd2 fd3 : FuncData} (D : Df K mg "all_trees" sAllTrees f fd ["pairs"]) (B : Bl mg) (D1 : Df K mg "need_number" sNeedNum f1 fd1 ["value", "part", "least", "most"]) (G1 : FnOk P w K mg base CX0 3 f1 fd1 ["value", "part", "least", "most"] spNeedNum)
    (D2 : Df K mg "all_words" sAllWords f2 fd2 ["pairs"]) (G2 : FnOk P w K mg base CX0 4 f2 fd2 ["pairs"] spAllWords) (D3 : Df K mg "turns_in" sTurns f3 fd3 ["word"]) (G3 : FnOk P w K mg base CX0 3 f3 fd3 ["word"] spTurns) : FnOk P w K mg base CX0 5 f fd ["pairs"] spAllTrees := by
  obtain ⟨tM, mM⟩ := B.mostT
  refine D.fn.ok scAllTrees (fun vs H Q E h => ?_) (fun cdv A outer s H vs Q E hr h => ?_)
  · obtain ⟨n, fu, ws, L, rfl, _⟩ := h
    rfl
  · obtain ⟨n, fu, ws, L, rfl, h1, h9, hw, hfu, hlen, hL, q⟩ := h
    have nd := scAllTrees.nd
    have hr3 : Room 3 _ := hr.mono (by decide)
    have hu := hu_of hr
    have hwl := wordsO_len fu (tens n) ws hw
    refine ⟨_, pss_cons (ps_expr (pe_call G1 hr3 (by rfl) D1.gl D1.fn.kp D1.bd .nil pass0 (pa_cons (pv 0) (pa_cons pe_str (pa_cons pe_int (pa_cons (pe_glob (v := .int 9) (by rfl) mM ⟨tM, rfl⟩) pa_nil))))))
      (pss_cons (ps_par (i := 1) (j := 2) (by rfl) nd rfl rfl (by decide) rfl rfl (pa_cons (pe_lst pa_nil) (pa_cons pe_dnewK pa_nil)) (by rfl))
      (pss_cons (ps_for PassesOwn.never rfl (pi_tup (pe_call G2 hr (by rfl) D2.gl D2.fn.kp D2.bd .nil pass0 (pa_cons (pv 0) pa_nil))) (pg_name (i := 3) nd rfl (Or.inl rfl))
        (pss_one (ps_if (pt_cmp (pc_dnotin hu (pv 3) (pv 2)))
          (pss_cons (ps_expr (pe_bm PySem.F.plainAttrs_list PySem.F.slot_list_append PySem.F.type_list_append mt_append (pv 1) (pa_cons (pv 3) pa_nil)))
            (pss_one (ps_for PassesOwn.never rfl (pi_list (pe_call G3 hr3 (by rfl) D3.gl D3.fn.kp D3.bd .nil pass0 (pa_cons (pv 3) pa_nil))) (pg_name (i := 4) nd rfl (Or.inl rfl))
              (pss_one (ps_dput hu (pv 2) (pv 4) pe_bl rfl))))) pss_nil)))
      (pss_one (ps_ret (pe_callTy call_tuple_of (by rfl) B.tup (by decide +kernel) (pa_cons (pv 1) pa_nil)))))), ?_⟩
    refine ⟨_, rfl, n, 1, 9, _, rfl, by omega, by omega, ?_⟩
    refine ⟨Nat.zero_le _, fun fn nfn dn ndn => ⟨_, _, rfl, ?_⟩⟩
    have nfd : fn ≠ dn := ne_of_none upd_same ndn
    have sm0 : Same H (upd (upd H fn (.lst [])) dn (.dK [])) := (same_upd nfn).trans (same_upd ndn)
    have nd0 : H dn = none := (same_upd nfn).free ndn
    refine ⟨_, rfl, n, fu, ws, rfl, h1, h9, hw, hfu, hlen, fun H1 T sm1 nT hT => ?_⟩
    have nTd : T ≠ dn := fun e => by
      rw [e, upd_same] at nT
      cases nT
    have nTf : T ≠ fn := fun e => by
      rw [e, upd_ne nfd, upd_same] at nT
      cases nT
    have hf1 : H1 fn = some (.lst []) := sm1 fn _ (by rw [upd_ne nfd, upd_same])
    have hd1 : H1 dn = some (.dK []) := sm1 dn _ upd_same
    refine ⟨T, rfl, ⟨_, .of hT⟩, ?_⟩
    refine for_it (walk_tup (K := K) (xs := tx ws)) (fun i σ H2 => ∃ (m : Nat) (pre L2 : List (W × List W)) (c3 c4 : Option V) (kvs : List (Key × V)), σ = [some (.int (n : Int)), some (.ref fn), some (.ref dn), c3, c4] ∧ H2 fn = some (.lst (tx (pre.map (·.1)))) ∧ H2 dn = some (.dK kvs) ∧ H2 T = some (.tup (tx ws)) ∧
        Same H H2 ∧ treesB (ws.drop i) m = some L2 ∧ L = pre ++ L2 ∧ Met kvs m ∧ kvs.length ≤ 41 * i ∧ pre.length ≤ i)
      ⟨0, [], L, none, none, [], rfl, hf1, hd1, hT, sm0.trans sm1, hL, rfl, met_nil, Nat.zero_le _, Nat.zero_le _⟩ (fun i σ H2 _ ⟨_, _, _, _, _, _, _, _, _, hT2, _⟩ => .of hT2) ?_ ?_
    · rintro i x σ H2 H3 hi ⟨m, pre, L2, c3, c4, kvs, rfl, hf, hd, hT2, sm, hB, eL, hM, hk, hp⟩ ⟨rfl, hx⟩
      rw [tx_len] at hi
      obtain ⟨hi2, rfl⟩ := tx_get hx
      have ed : ws.drop i = ws[i] :: ws.drop (i + 1) := List.drop_eq_getElem_cons hi
      rw [ed] at hB
      have hM1 := hM ws[i]
      refine ⟨.str (S ws[i]), rfl, .ref dn, rfl, dn, _, rfl, DGet.k (k := .inr (S ws[i])) hd, _, rfl, ?_⟩
      rw [hM1]
      rcases trees_step hB with ⟨hb, hB2⟩ | ⟨hb, ts, L3, ht, hB2, rfl⟩
      · rw [hb]
        refine ifF (by decide) ?_
        exact ⟨m, pre, L2, _, c4, kvs, rfl, hf, hd, hT2, sm, hB2, eL, hM, by omega, by omega⟩
      · rw [hb]
        refine ifT (by decide) ?_
        have tl := turnsOf_len ht
        have hlw := hlen ws[i] (List.getElem_mem hi)
        refine ⟨.ref fn, rfl, .inl ⟨rfl, _, .of hf⟩, .str (S ws[i]), rfl, fn, _, _, rfl, rfl, hf, ?_, ?_⟩
        · rw [tx_len, List.length_map, sizeLine_eq]
          omega
        refine ⟨_, rfl, ws[i], ts, rfl, ht, by omega, fun H4 p sm4 np hp4 => ?_⟩
        have npf : p ≠ fn := fun e => by
          rw [e, upd_same] at np
          cases np
        have npd : p ≠ dn := fun e => by
          rw [e, upd_ne nfd.symm, hd] at np
          cases np
        have npT : p ≠ T := fun e => by
          rw [e, upd_ne nTf, hT2] at np
          cases np
        have hf4 : H4 fn = some (.lst (tx ((pre ++ [(ws[i], ts)]).map (·.1)))) := by
          rw [List.map_append, tx_app]
          exact sm4 fn _ upd_same
        have hd4 : H4 dn = some (.dK kvs) := sm4 dn _ (by rw [upd_ne nfd.symm]; exact hd)
        have hT4 : H4 T = some (.tup (tx ws)) := sm4 T _ (by rw [upd_ne nTf]; exact hT2)
        have sm5 : Same H H4 := (same_upd2 sm nfn).trans sm4
        refine ⟨p, rfl, ⟨_, .of hp4⟩, ?_⟩
        refine for_it (walk_list (K := K) (xs := tx ts)) (fun j σ H5 => ∃ (c4 : Option V) (kv2 : List (Key × V)), σ = [some (.int (n : Int)), some (.ref fn), some (.ref dn), some (.str (S ws[i])), c4] ∧ H5 fn = some (.lst (tx ((pre ++ [(ws[i], ts)]).map (·.1)))) ∧ H5 dn = some (.dK kv2) ∧ H5 T = some (.tup (tx ws)) ∧ H5 p = some (.lst (tx ts)) ∧
            Same H H5 ∧ Met kv2 (marks m (ts.take j)) ∧ kv2.length ≤ kvs.length + j)
          ⟨c4, kvs, rfl, hf4, hd4, hT4, hp4, sm5, hM, by omega⟩ (fun j σ H5 _ ⟨_, _, _, _, _, _, hp5, _⟩ => .of hp5) ?_ ?_
        · rintro j y σ H5 H6 hj ⟨c5, kv2, rfl, hf5, hd5, hT5, hp5, sm6, hM5, hk5⟩ ⟨rfl, hy⟩
          obtain ⟨hj2, rfl⟩ := tx_get hy
          have ek : kv2.length < sizeLine := by
            rw [sizeLine_eq]
            omega
          refine ⟨.ref dn, rfl, .str (S ts[j]), rfl, dn, _, rfl, DPut.k (k := .inr (S ts[j])) hd5 ek, ?_⟩
          refine ⟨_, _, rfl, by rw [upd_ne nfd]; exact hf5, upd_same, by rw [upd_ne nTd]; exact hT5, by rw [upd_ne npd]; exact hp5, same_upd2 sm6 nd0, ?_, ?_⟩
          · rw [List.take_succ_eq_append_getElem hj2, marks_snoc]
            exact met_put hM5 _ _
          · have := length_putK kv2 (.inr (S ts[j])) (V.bl true)
            omega
        · rintro σ H5 ⟨c5, kv2, rfl, hf5, hd5, hT5, hp5, sm6, hM5, hk5⟩
          rw [tx_len] at hM5 hk5
          rw [List.take_length] at hM5
          refine ⟨marks m ts, pre ++ [(ws[i], ts)], L3, _, _, kv2, rfl, hf5, hd5, hT5, sm6, hB2, by rw [eL]; simp, hM5, by omega, by simp; omega⟩
    · rintro σ H2 ⟨m, pre, L2, c3, c4, kvs, rfl, hf, hd, hT2, sm, hB, eL, hM, hk, hp⟩
      rw [tx_len, List.drop_eq_nil_of_le (Nat.le_refl _)] at hB
      have e2 : L2 = [] := (Option.some.inj hB).symm
      subst e2
      rw [List.append_nil] at eL
      subst eL
      exact ⟨_, rfl, fn, _, rfl, .inl ⟨.of hf, fun p np => q _ p (sm.trans (same_upd np)) (sm.free np) upd_same⟩⟩
end
end K15
namespace K15
open PySem PySem.Spec PyProof.Rows L2
/-! ### what draws -/
/-- all that was tracked but what stands at g is as it was -/
def SameX (g : Addr) (H H1 : Hp) : Prop := ∀ b o, b ≠ g → H b = some o → H1 b = some o
theorem SameX.refl (g : Addr) (H : Hp) : SameX g H H := fun _ _ _ h => h
theorem SameX.trans {g : Addr} {H H1 H2 : Hp} (a : SameX g H H1) (b : SameX g H1 H2) : SameX g H H2 := fun c o n h => b c o n (a c o n h)
theorem SameX.of {g : Addr} {H H1 : Hp} (a : Same H H1) : SameX g H H1 := fun c o _ h => a c o h
theorem SameX.upd {g : Addr} {H H1 : Hp} {o : HO} (a : SameX g H H1) : SameX g H (upd H1 g o) := fun c x n h => by
  rw [upd_ne n]
  exact a c x n h
/-- what draws, at g: its cells at c, how many were begun, what is left of a great one -/
structure Gr (H : Hp) (g c : Addr) (cells : List Int) (t l : Int) : Prop where
  at_g : H g = some (.lst [.ref c, .int t, .int l])
  at_c : H c = some (.lst (cells.map V.int))
  ne : g ≠ c
  t0 : 0 ≤ t
  l0 : 0 ≤ l
theorem Gr.keep {H H1 : Hp} {g c : Addr} {cells : List Int} {t l : Int} (G : Gr H g c cells t l) (s : Same H H1) : Gr H1 g c cells t l := ⟨s _ _ G.at_g, s _ _ G.at_c, G.ne, G.t0, G.l0⟩
section
variable {P : Program} {w : World} {K : PySem.W.Frag} {mg : Str → Option Value} {base : Heap}
def spGrove (K : PySem.W.Frag) : Sp := fun vs H Q _ => ∃ (a : Addr) (ns : List Int), vs = [.ref a] ∧ SqL K H a (ns.map V.int) ∧ ns.length ≤ 63 ∧ ∀ H1 g c cells, Same H H1 → H g = none → H c = none → Gr H1 g c cells 0 0 → cells.length ≤ 63 → Q (.ref g) H1
theorem scGrove : FnScope ["_law_script", "_law_cell"] ["_law_script"] (defScope sGrove) := ⟨rfl, rfl, rfl, by decide +kernel, rfl, by decide +kernel, by decide +kernel⟩
theorem cut_ints (ns : List Int) (lo hi : Option Int) : ∃ ms : List Int, cutV (ns.map V.int) lo hi = ms.map V.int ∧ ms.length ≤ ns.length := by
  refine ⟨(ns.drop (HT.sIx (ns.map V.int).length 0 lo)).take (HT.sIx (ns.map V.int).length (ns.map V.int).length hi - HT.sIx (ns.map V.int).length 0 lo), ?_, ?_⟩
  · unfold cutV
    rw [List.map_take, List.map_drop]
  · rw [List.length_take, List.length_drop]
    omega
theorem ok_grove {f : Addr} {fd : FuncData} (D : Df K mg "_law_grove" sGrove f fd ["_law_script"]) (B : Bl mg) : FnOk P w K mg base CX0 1 f fd ["_law_script"] (spGrove K) := by
  refine D.fn.ok scGrove (fun vs H Q E h => ?_) (fun cdv A outer s H vs Q E hr h => ?_)
  · obtain ⟨a, ns, rfl, _⟩ := h
    rfl
  · obtain ⟨a, ns, rfl, hS, hlen, q⟩ := h
    have nd := scGrove.nd
    refine ⟨_, pss_one (ps_ret (pe_lst (pa_cons
      (pe_lc (own := [("_law_cell", 1)]) (g := gName 1) (tt := tYes) (by rfl) nd (pi_list (pe_slice sl_list (pv 0) po_none (po_some pe_int))) (blkOk_by (own := [("_law_cell", 1)]) (N := ["_law_script", "_law_cell"]) (sc := defScope sGrove) (by decide +kernel))
        (fun _ _ _ _ _ => pg_name (i := 1) nd rfl (Or.inl rfl)) (fun _ _ _ _ _ => pts_nil)
        (fun _ _ _ _ _ => pe_callTy call_int1 (by rfl) B.int (by decide +kernel) (pa_cons (pv 1) pa_nil)))
      (pa_cons pe_int (pa_cons pe_int pa_nil))))), ?_⟩
    obtain ⟨ms, em, hm⟩ := cut_ints ns none (some 60)
    refine ⟨.ref a, rfl, 60, rfl, a, _, rfl, hS, fun p np => ?_⟩
    rw [em]
    have sm1 : Same H (upd H p (.lst (ms.map V.int))) := same_upd np
    refine ⟨p, rfl, ⟨_, .of upd_same⟩, fun c nc => ?_⟩
    have ncp : c ≠ p := fun e => by
      rw [e, upd_same] at nc
      cases nc
    refine lc_it (walk_list (K := K) (xs := ms.map V.int)) (fun i H2 => Same H H2 ∧ H2 p = some (.lst (ms.map V.int)) ∧ H2 c = some (.lst ((ms.take i).map V.int))) ⟨sm1.trans (same_upd nc), by rw [upd_ne ncp.symm]; exact upd_same, upd_same⟩ (fun i H2 _ ⟨_, h, _⟩ => .of h) ?_ ?_
    · rintro i x H2 H3 hi ⟨sm, hp, hc⟩ ⟨rfl, hx⟩
      rw [List.length_map] at hi
      have ex : x = .int ms[i] := by
        rw [List.getElem?_map, List.getElem?_eq_getElem hi] at hx
        exact (Option.some.inj hx).symm
      subst ex
      refine ⟨rfl, _, rfl, .inl ⟨_, rfl, _, hc, ?_, ?_, ?_, ?_⟩⟩
      · rw [List.length_map, List.length_take]
        exact small1000 (by omega)
      · exact same_upd2 sm (sm1.free nc)
      · rw [upd_ne ncp.symm]
        exact hp
      · rw [upd_same, List.take_succ_eq_append_getElem hi, List.map_append] <;> rfl
    · rintro H2 ⟨sm, hp, hc⟩
      rw [List.length_map, List.take_length] at hc
      refine ⟨by show 3 ≤ sizeLine; decide, fun g ng => ?_⟩
      have ngc : g ≠ c := fun e => by
        rw [e, hc] at ng
        cases ng
      exact q _ g c ms (sm.trans (same_upd ng)) (sm.free ng) (sm1.free nc) ⟨upd_same, by rw [upd_ne ngc.symm]; exact hc, ngc, by decide, by decide⟩ (by omega)
def spFell : Sp := fun vs H Q _ => ∃ (g c : Addr) (cells : List Int) (t l : Int) (m : Nat), vs = [.ref g, .int m] ∧ Gr H g c cells t l ∧ t ≤ 1000 ∧ 1 ≤ m ∧ m ≤ 1000 ∧ cells.length ≤ 63 ∧
  ∀ (H1 : Hp) (r : Nat) (t1 l1 : Int), SameX g H H1 → Gr H1 g c cells t1 l1 → t1 ≤ t + 1 → r < m → Q (.int r) H1
theorem scFell : FnScope ["_law_grove_here", "_law_many", "_law_left", "_law_turn", "_law_cell", "_law_mixed"] ["_law_grove_here", "_law_many"] (defScope sFell) := ⟨rfl, rfl, rfl, by decide +kernel, rfl, by decide +kernel, by decide +kernel⟩
theorem fmod_in (z : Int) {m : Nat} (hm : 1 ≤ m) : ∃ r : Nat, z.fmod (m : Int) = (r : Int) ∧ r < m := by
  have h1 := Int.fmod_nonneg_of_pos z (show (0 : Int) < m by omega)
  have h2 := Int.fmod_lt_of_pos z (show (0 : Int) < m by omega)
  exact ⟨(z.fmod (m : Int)).toNat, by omega, by omega⟩
theorem eqv_nil (cells : List Int) : PyData.eqv (.list (cells.map PyData.int)) (.list []) = cells.isEmpty := by
  cases cells <;> rfl
theorem dp_ints {K : PySem.W.Frag} {H : Hp} : ∀ cells : List Int, DpAll K H (cells.map V.int) (cells.map PyData.int)
  | [] => .nil
  | x :: r => .cons (.int x) (dp_ints r)
theorem shaped_ints (cells : List Int) : SeqAt.shaped (.list (cells.map PyData.int)) = true := by
  unfold SeqAt.shaped
  have h1 : PyData.canLay0 (.list (cells.map PyData.int)) = true := canLayAll_ints cells
  have h2 : ∀ cs : List Int, PyData.depthAll (cs.map PyData.int) = 0 := fun cs => by
    induction cs with
    | nil => rfl
    | cons x r ih =>
      show max 0 (PyData.depthAll (r.map PyData.int)) = 0
      rw [ih] <;> rfl
  have h3 : PyData.depth (.list (cells.map PyData.int)) = 1 := by
    show PyData.depthAll (cells.map PyData.int) + 1 = 1
    rw [h2]
  rw [h1, h3] <;> rfl
theorem mul_in {a b x y : Int} (ha : 0 ≤ a) (ha2 : a ≤ x) (hb : 0 ≤ b) (hb2 : b ≤ y) : 0 ≤ a * b ∧ a * b ≤ x * y :=
  ⟨Int.mul_nonneg ha hb, Int.mul_le_mul ha2 hb2 hb (Int.le_trans ha ha2)⟩
theorem fmod_bd (z : Int) {k : Int} (hk : 0 < k) : 0 ≤ z.fmod k ∧ z.fmod k < k := ⟨Int.fmod_nonneg_of_pos z hk, Int.fmod_lt_of_pos z hk⟩
/-- a body whose last statements are come to on several ways -/
theorem cut_body {X : Cx} {body : List Stmt} {D : Ends} {σ : L2.St} {H : Hp} (k : Nat) (R : L2.St → Hp → Prop) (tail : ∃ t, PSs X (body.drop k) t ∧ ∀ σ H, R σ H → t D σ H)
    (head : ∀ t, PSs X (body.drop k) t → (∀ σ H, R σ H → t D σ H) → ∃ u, PSs X body u ∧ u D σ H) : ∃ u, PSs X body u ∧ u D σ H := by
  obtain ⟨t, h1, h2⟩ := tail
  exact head t h1 h2
theorem ok_fell {f : Addr} {fd : FuncData} (D : Df K mg "_law_fell" sFell f fd ["_law_grove_here", "_law_many"]) (B : Bl mg) : FnOk P w K mg base CX0 1 f fd ["_law_grove_here", "_law_many"] spFell := by
  refine D.fn.ok scFell (fun vs H Q E h => ?_) (fun cdv A outer s H vs Q E hr h => ?_)
  · obtain ⟨g, c, cells, t, l, m, rfl, _⟩ := h
    rfl
  · obtain ⟨g, c, cells, t, l, m, rfl, G, ht, hm1, hm, hcl, q⟩ := h
    have nd := scFell.nd
    have a2 : ∀ t l : Int, atI [V.ref c, V.int t, V.int l] 2 = some (.int l) := fun _ _ => rfl
    have a1 : ∀ t l : Int, atI [V.ref c, V.int t, V.int l] 1 = some (.int t) := fun _ _ => rfl
    have a0 : ∀ t l : Int, atI [V.ref c, V.int t, V.int l] 0 = some (.ref c) := fun _ _ => rfl
    have hm0 : (m : Int) ≠ 0 := by omega
    have hms : (m : Int) ≠ 0 ∧ (m : Int).natAbs < 1073741824 := ⟨hm0, by omega⟩
    have gc := G.ne
    have t0 := G.t0
    refine cut_body 6 (fun σ H2 => ∃ (z : Int) (c2 : Option V), σ = [some (.ref g), some (.int (m : Int)), c2, some (.int t), some (.int z), none] ∧ Gr H2 g c cells (t + 1) 0 ∧ SameX g H H2)
      ⟨_, pss_cons (ps_set (i := 5) nd rfl (Or.inl rfl) (pe_op op_modN (pe_callTy call_int1 (by rfl) B.int (by decide +kernel) (pa_cons (pe_op op_pow (pe_op op_add (pe_op op_add (pe_op op_modN (pe_callTy call_int1 (by rfl) B.int (by decide +kernel) (pa_cons (pv 4) pa_nil)) pe_int)
          (pe_op op_mul pe_int (pv 3))) pe_int) pe_int) pa_nil)) pe_int))
        (pss_cons (ps_set (i := 5) nd rfl (Or.inl rfl) (pe_op op_modN (pe_callTy call_int1 (by rfl) B.int (by decide +kernel) (pa_cons (pe_op op_pow (pe_op op_add (pe_op op_add (pe_op op_mul (pv 5) (pe_op op_add (pe_op op_mul pe_int (pv 3)) pe_int))
          (pe_op op_mul (pe_op op_mul pe_int (pv 3)) (pv 3))) pe_int) pe_int) pa_nil)) pe_int))
        (pss_one (ps_ret (pe_op op_modN (pe_callTy call_int1 (by rfl) B.int (by decide +kernel) (pa_cons (pe_op op_fdivN (pv 5) pe_int) pa_nil)) (pv 1))))), ?_⟩
      (fun tT hT qT => cut_body 5 (fun σ H2 => ∃ z : Int, σ = [some (.ref g), some (.int (m : Int)), none, some (.int t), some (.int z), none] ∧ Gr H2 g c cells (t + 1) 0 ∧ SameX g H H2)
        ⟨_, pss_cons (ps_if (PW.pt (pw_and (pt_cmpR op_lt (pv 3) (pe_callB call_len_seq (by rfl) B.len PySem.boot_len (pa_cons (pe_ix ix_list (pv 0) pe_int (fun _ _ => rfl)) pa_nil)) (nomark _))
            (pw_and1 (pt_cmpR op_ge (pe_callB call_abs (by rfl) B.abs (by decide +kernel) (pa_cons (pv 4) pa_nil)) (pe_op op_pow pe_int pe_int) (nomark _)))))
        (pss_cons (ps_set (i := 2) nd rfl (Or.inl rfl) (pe_op op_add (pe_op op_mul pe_int (pe_op op_sub (pe_callB call_abs (by rfl) B.abs (by decide +kernel) (pa_cons (pe_callTy call_int1 (by rfl) B.int (by decide +kernel) (pa_cons (pv 4) pa_nil)) pa_nil)) (pe_op op_pow pe_int pe_int)))
            (pe_callTy call_int1 (by rfl) B.int (by decide +kernel) (pa_cons (pe_cmpR op_lt (pv 4) pe_int (nomark _)) pa_nil))))
        (pss_cons (ps_asg (pe_op op_fdivN (pv 2) (pv 1)) (pg_sub (pv 0) pe_int set_list))
        (pss_one (ps_ret (pe_op op_modN (pe_callTy call_int1 (by rfl) B.int (by decide +kernel) (pa_cons (pv 2) pa_nil)) (pv 1)))))) pss_nil) hT, ?_⟩
      (fun tU hU qU => ⟨_, pss_cons (ps_if (pt_cmpR op_gt (pe_ix ix_list (pv 0) pe_int (fun _ _ => rfl)) pe_int (nomark _))
        (pss_cons (ps_set (i := 2) nd rfl (Or.inl rfl) (pe_callTy call_int1 (by rfl) B.int (by decide +kernel) (pa_cons (pe_ix ix_list (pv 0) pe_int (fun _ _ => rfl)) pa_nil)))
        (pss_cons (ps_asg (pe_op op_fdivN (pv 2) (pv 1)) (pg_sub (pv 0) pe_int set_list))
        (pss_one (ps_ret (pe_op op_modN (pe_callTy call_int1 (by rfl) B.int (by decide +kernel) (pa_cons (pv 2) pa_nil)) (pv 1)))))) pss_nil)
      (pss_cons (ps_set (i := 3) nd rfl (Or.inl rfl) (pe_ix ix_list (pv 0) pe_int (fun _ _ => rfl)))
      (pss_cons (ps_asg (pe_op op_add (pv 3) pe_int) (pg_sub (pv 0) pe_int set_list))
      (pss_cons (ps_set (i := 4) nd rfl (Or.inl rfl) (pe_op op_add (pe_op op_mul pe_int (pv 3)) pe_int))
      (pss_cons (ps_if (pt_cmpR (op_neD hr.units) (pe_ix ix_list (pv 0) pe_int (fun _ _ => rfl)) (pe_lst pa_nil) (nomark _))
        (pss_one (ps_set (i := 4) nd rfl (Or.inl rfl) (pe_ix ix_list (pe_ix ix_list (pv 0) pe_int (fun _ _ => rfl)) (pe_op op_modN (pe_callTy call_int1 (by rfl) B.int (by decide +kernel) (pa_cons (pv 3) pa_nil))
          (pe_callB call_len_seq (by rfl) B.len PySem.boot_len (pa_cons (pe_ix ix_list (pv 0) pe_int (fun _ _ => rfl)) pa_nil))) (fun _ _ => rfl)))) pss_nil) hU)))), ?_⟩))
    · rintro σ H2 ⟨z, c2, rfl, G2, sx⟩
      obtain ⟨z1, z2⟩ := fmod_bd z (show (0 : Int) < 2147483563 by decide)
      refine ⟨_, rfl, .inl ⟨z, rfl, _, _, rfl, rfl, (by show (2147483563 : Int) ≠ 0; decide), _, rfl, _, _, rfl, rfl, .inl ⟨by decide, by decide⟩, _, _, rfl, rfl, _, _, rfl, rfl, _, _, rfl, rfl,
        ⟨by decide, by decide, ?_⟩, .inl ⟨_, rfl, _, _, rfl, rfl, (by show (2147483549 : Int) ≠ 0; decide), ?_⟩⟩⟩
      · show (z.fmod 2147483563 + 61131 * t + 4071).natAbs < 2 ^ 64
        omega
      generalize ((z.fmod 2147483563 + 61131 * t + 4071) ^ (5 : Int).toNat) = y
      obtain ⟨y1, y2⟩ := fmod_bd y (show (0 : Int) < 2147483549 by decide)
      obtain ⟨p1, p2⟩ := mul_in (x := 2147483549) (y := 7191) y1 (Int.le_of_lt y2) (show 0 ≤ 2 * t + 5191 by omega) (by omega)
      obtain ⟨p3, p4⟩ := mul_in (x := 90115000) (y := 1000) (show 0 ≤ 90115 * t by omega) (by omega) t0 ht
      refine ⟨_, rfl, _, rfl, _, _, rfl, rfl, .inl ⟨by decide, by decide⟩, _, _, rfl, rfl, _, _, rfl, rfl, .inl ⟨?_, ?_⟩, _, rfl, _, _, rfl, rfl, .inl ⟨by decide, by decide⟩, _, rfl, _, _, rfl, rfl, .inl ⟨?_, ?_⟩,
        _, _, rfl, rfl, _, _, rfl, rfl, _, _, rfl, rfl, ⟨by decide, by decide, ?_⟩, .inl ⟨_, rfl, _, _, rfl, rfl, (by show (2147483629 : Int) ≠ 0; decide), ?_⟩⟩
      · omega
      · omega
      · omega
      · omega
      · show (y.fmod 2147483549 * (2 * t + 5191) + 90115 * t * t + 61131).natAbs < 2 ^ 64
        omega
      obtain ⟨r, er, hr2⟩ := fmod_in (((((y.fmod 2147483549 * (2 * t + 5191) + 90115 * t * t + 61131) ^ Int.toNat 3).fmod 2147483629).fdiv 64)) hm1
      refine ⟨_, rfl, _, _, rfl, rfl, ⟨by decide, by decide⟩, .inl ⟨_, rfl, _, rfl, _, _, rfl, rfl, hm0, ?_⟩⟩
      show Q (V.int (((((y.fmod 2147483549 * (2 * t + 5191) + 90115 * t * t + 61131) ^ Int.toNat 3).fmod 2147483629).fdiv 64).fmod (m : Int))) _
      rw [er]
      exact q H2 r (t + 1) 0 sx G2 (by omega) hr2
    · rintro σ H2 ⟨z, rfl, G2, sx⟩
      refine ⟨_, rfl, _, rfl, g, _, 0, .ref c, rfl, rfl, .of G2.at_g, a0 _ _, c, _, rfl, .inl (.of G2.at_c), _, _, rfl, rfl, _, rfl, ?_⟩
      refine ite2 (fun e1 => ?_) (fun e1 => ?_)
      · refine ⟨_, rfl, _, rfl, _, _, rfl, rfl, ⟨by decide, by decide, by decide⟩, _, _, rfl, rfl, _, rfl, ite2 (fun e2 => ?_) (fun e2 => ?_)⟩
        · have e3 : (10 : Int) ^ (18 : Int).toNat ≤ (if z < 0 then -z else z) := of_decide_eq_true e2
          generalize hb : (10 : Int) ^ (18 : Int).toNat = big at e3
          refine ⟨_, rfl, .inl ⟨_, rfl, _, rfl, _, _, rfl, rfl, ⟨by decide, by decide, by decide⟩, _, _, rfl, rfl, _, _, rfl, rfl, .inl ⟨by decide, by decide⟩, _, rfl, _, _, rfl, rfl, .inr ⟨_, rfl, _, _, rfl, rfl, ?_⟩⟩⟩
          have hnn : 0 ≤ 2 * ((if z < 0 then -z else z) - (10 : Int) ^ (18 : Int).toNat) + (if decide (z < 0) = true then 1 else 0) := by
            rw [hb]
            split <;> omega
          obtain ⟨r, er, hr2⟩ := fmod_in (2 * ((if z < 0 then -z else z) - (10 : Int) ^ (18 : Int).toNat) + (if decide (z < 0) = true then 1 else 0)) hm1
          generalize hw : 2 * ((if z < 0 then -z else z) - (10 : Int) ^ (18 : Int).toNat) + (if decide (z < 0) = true then (1 : Int) else 0) = y at hnn er
          have hset : ∀ (W : V), W = V.int y → True := fun _ _ => trivial
          refine ⟨_, rfl, _, rfl, _, _, rfl, rfl, hms, ?_⟩
          refine ⟨_, rfl, g, _, 2, 2, rfl, rfl, G2.at_g, rfl, ?_⟩
          refine ⟨_, rfl, .inl ⟨_, rfl, _, rfl, _, _, rfl, rfl, hm0, ?_⟩⟩
          show Q (V.int ((2 * ((if z < 0 then -z else z) - (10 : Int) ^ (18 : Int).toNat) + (if decide (z < 0) = true then (1 : Int) else 0)).fmod (m : Int))) _
          rw [hw, er]
          refine q _ r (t + 1) (y.fdiv (m : Int)) sx.upd ⟨?_, ?_, gc, by omega, Int.fdiv_nonneg hnn (by omega)⟩ (by omega) hr2
          · rw [upd_same, ← hw] <;> rfl
          · rw [upd_ne gc.symm]
            exact G2.at_c
        · exact qT _ _ ⟨z, none, rfl, G2, sx⟩
      · exact qT _ _ ⟨z, none, rfl, G2, sx⟩
    refine ⟨_, rfl, g, _, 2, .int l, rfl, rfl, .of G.at_g, a2 _ _, _, _, rfl, rfl, _, rfl, ite2 (fun e => ?_) (fun e => ?_)⟩
    · have hl : 0 < l := of_decide_eq_true e
      obtain ⟨r, er, hr2⟩ := fmod_in l hm1
      refine ⟨_, rfl, g, _, 2, .int l, rfl, rfl, .of G.at_g, a2 _ _, .inl ⟨_, rfl, ?_⟩⟩
      refine ⟨_, rfl, _, rfl, _, _, rfl, rfl, hms, ?_⟩
      refine ⟨_, rfl, g, _, 2, 2, rfl, rfl, G.at_g, rfl, ?_⟩
      refine ⟨_, rfl, .inl ⟨_, rfl, _, rfl, _, _, rfl, rfl, hm0, ?_⟩⟩
      show Q (V.int (l.fmod (m : Int))) _
      rw [er]
      refine q _ r t (l.fdiv (m : Int)) ((SameX.refl g H).upd) ⟨upd_same, ?_, gc, G.t0, Int.fdiv_nonneg (by omega) (by omega)⟩ (by omega) hr2
      rw [upd_ne gc.symm]
      exact G.at_c
    · have hl : l = 0 := by
        have := G.l0
        have : ¬ 0 < l := fun z => e (decide_eq_true z)
        omega
      subst hl
      refine ⟨_, rfl, g, _, 1, .int t, rfl, rfl, .of G.at_g, a1 _ _, ?_⟩
      refine ⟨_, rfl, _, _, rfl, rfl, _, rfl, g, _, 1, 1, rfl, rfl, G.at_g, rfl, ?_⟩
      have G1 : Gr (upd H g (.lst ([V.ref c, V.int t, V.int 0].set 1 (V.int (t + 1))))) g c cells (t + 1) 0 := ⟨upd_same, by rw [upd_ne gc.symm]; exact G.at_c, gc, by omega, by decide⟩
      have x1 : SameX g H (upd H g (.lst ([V.ref c, V.int t, V.int 0].set 1 (V.int (t + 1))))) := (SameX.refl g H).upd
      generalize (upd H g (.lst ([V.ref c, V.int t, V.int 0].set 1 (V.int (t + 1))))) = H1 at G1 x1
      refine ⟨_, rfl, _, _, rfl, rfl, .inl ⟨by decide, by decide⟩, _, _, rfl, rfl, ?_⟩
      refine ⟨_, rfl, g, _, 0, .ref c, rfl, rfl, .of G1.at_g, a0 _ _, Nat.zero_le _, fun p np => ⟨_, _, .lst (.of ?_) (dp_ints cells), .lst (.of upd_same) .nil, shaped_ints cells, rfl, _, rfl, ?_⟩⟩
      · exact same_upd np _ _ G1.at_c
      have G2 := G1.keep (same_upd (o := .lst []) np)
      have x2 := x1.trans (SameX.of (same_upd (o := .lst []) np))
      rw [eqv_nil]
      refine ite2 (fun e1 => ?_) (fun e1 => ?_)
      · have hc0 : 1 ≤ cells.length := by
          cases cells with
          | nil => cases e1
          | cons _ _ => simp
        obtain ⟨r, er, hr2⟩ := fmod_in t hc0
        refine ⟨_, rfl, g, _, 0, .ref c, rfl, rfl, .of G2.at_g, a0 _ _, _, rfl, .inl ⟨_, rfl, _, rfl, g, _, 0, .ref c, rfl, rfl, .of G2.at_g, a0 _ _, c, _, rfl, .inl (.of G2.at_c), _, _, rfl, rfl, ?_, c, _, _, .int cells[r], rfl, rfl, .of G2.at_c, ?_, ?_⟩⟩
        · rw [List.length_map]
          omega
        · rw [List.length_map, er]
          exact atI_nat (by rw [List.getElem?_map, List.getElem?_eq_getElem hr2] <;> rfl)
        · exact qU _ _ ⟨cells[r], rfl, G2, x2⟩
      · exact qU _ _ ⟨_, rfl, G2, x2⟩
end
end K15
namespace K15
open PySem PySem.Spec PyProof.Rows L2
/-! ### one of, turning again -/
theorem SameX.seq {K : PySem.W.Frag} {g : Addr} {H H1 : Hp} {b : Addr} {xs : List V} (s : SameX g H H1) (n : b ≠ g) (h : SqL K H b xs) : SqL K H1 b xs := by
  rcases h with (h | ⟨o, h⟩) | h
  · exact .inl (.inl (s b _ n h))
  · exact .inl (.inr ⟨o, s b _ n h⟩)
  · exact .inr h
section
variable {P : Program} {w : World} {K : PySem.W.Frag} {mg : Str → Option Value} {base : Heap}
def spOneOf (K : PySem.W.Frag) : Sp := fun vs H Q _ => ∃ (g c b : Addr) (cells : List Int) (t l : Int) (xs : List V), vs = [.ref g, .ref b] ∧ Gr H g c cells t l ∧ t ≤ 1000 ∧ cells.length ≤ 63 ∧ SqL K H b xs ∧ b ≠ g ∧ 1 ≤ xs.length ∧ xs.length ≤ 1000 ∧
  ∀ (H1 : Hp) (r : Nat) (t1 l1 : Int) (x : V), SameX g H H1 → Gr H1 g c cells t1 l1 → t1 ≤ t + 1 → xs[r]? = some x → Q x H1
theorem scOneOf : FnScope ["_law_grove_here", "_law_some"] ["_law_grove_here", "_law_some"] (defScope sOneOf) := ⟨rfl, rfl, rfl, by decide +kernel, rfl, by decide +kernel, by decide +kernel⟩
theorem ok_oneof {f f1 : Addr} {fd fd1 : FuncData} (D : Df K mg "_law_one_of" sOneOf f fd ["_law_grove_here", "_law_some"]) (B : Bl mg) (D1 : Df K mg "_law_fell" sFell f1 fd1 ["_law_grove_here", "_law_many"])
    (G1 : FnOk P w K mg base CX0 1 f1 fd1 ["_law_grove_here", "_law_many"] spFell) : FnOk P w K mg base CX0 2 f fd ["_law_grove_here", "_law_some"] (spOneOf K) := by
  refine D.fn.ok scOneOf (fun vs H Q E h => ?_) (fun cdv A outer s H vs Q E hr h => ?_)
  · obtain ⟨g, c, b, cells, t, l, xs, rfl, _⟩ := h
    rfl
  · obtain ⟨g, c, b, cells, t, l, xs, rfl, G, ht, hc, hb, nb, h1, h2, q⟩ := h
    refine ⟨_, pss_one (ps_ret (pe_ix ix_list (pv 1) (pe_call G1 hr (by rfl) D1.gl D1.fn.kp D1.bd .nil pass0 (pa_cons (pv 0) (pa_cons (pe_callB call_len_seq (by rfl) B.len PySem.boot_len (pa_cons (pv 1) pa_nil)) pa_nil))) (fun _ _ => rfl))), ?_⟩
    refine ⟨_, rfl, _, rfl, _, rfl, b, _, rfl, .inl hb, g, c, cells, t, l, xs.length, rfl, G, ht, h1, h2, hc, fun H1 r t1 l1 sx G2 ht1 hr1 => ?_⟩
    exact ⟨b, xs, (r : Int), xs[r], rfl, rfl, sx.seq nb hb, atI_nat (List.getElem?_eq_getElem hr1), q H1 r t1 l1 _ sx G2 ht1 (List.getElem?_eq_getElem hr1)⟩
theorem scLTurned : FnScope ["_law_word", "_law_deep", "_law_at"] ["_law_word"] (defScope sLTurned) := ⟨rfl, rfl, rfl, by decide +kernel, rfl, by decide +kernel, by decide +kernel⟩
theorem ok_lturned {f : Addr} {fd : FuncData} (D : Df K mg "_law_turned" sLTurned f fd ["_law_word"]) : FnOk P w K mg base CX0 1 f fd ["_law_word"] spTurned := by
  refine D.fn.ok scLTurned (fun vs H Q E h => ?_) (fun cdv A outer s H vs Q E hr h => ?_)
  · obtain ⟨u, l, rfl, _⟩ := h
    rfl
  · obtain ⟨u, l, rfl, ht, hu, q⟩ := h
    have nd := scLTurned.nd
    have hz : (S u).length ≤ sizeLine := S_small hu (by omega)
    refine ⟨_, pss_cons (ps_asg (pe_tup (pa_cons pe_int (pa_cons pe_int pa_nil))) (pg_tup rfl (pgs_cons (pg_name (i := 1) nd rfl (Or.inl rfl)) (pgs_cons (pg_name (i := 2) nd rfl (Or.inl rfl)) pgs_nil))))
      (pss_cons (ps_while PassesOwn.never (pt_cmpR op_gt (pv 1) pe_int (nomark _))
        (pss_cons (ps_set (i := 1) nd rfl (Or.inl rfl) (pe_op op_add (pv 1) (pe_ifExp (pt_cmpR op_eq (pe_ix ix_str (pv 0) (pv 2) (fun _ _ => rfl)) pe_str (nomark _)) pe_int (pe_un un_neg pe_int))))
          (pss_one (ps_set (i := 2) nd rfl (Or.inl rfl) (pe_op op_add (pv 2) pe_int)))))
      (pss_one (ps_ret (pe_op op_add_str (pe_op op_add_str (pe_op op_add_str (pe_slice sl_str (pv 0) (po_some pe_int) (po_some (pe_op op_sub (pv 2) pe_int))) pe_str) (pe_slice sl_str (pv 0) (po_some (pv 2)) po_none)) pe_str)))), ?_⟩
    obtain ⟨k, r, rfl, hk, hkl, rfl⟩ := turn_scan ht
    refine ⟨by show 2 ≤ sizeLine; decide, fun T nT => ⟨T, _, rfl, .of upd_same, rfl, _, _, rfl, _, _, rfl, rfl, ?_⟩⟩
    refine ⟨fun m σ H2 => ∃ i d : Nat, σ = [some (.str (S (true :: r))), some (.int (d : Int)), some (.int (i : Int))] ∧ Same H H2 ∧ ((∃ k2, 0 < d ∧ scan d ((true :: r).drop i) = some k2 ∧ i + k2 = k + 1 ∧ m = k2 + 1) ∨ (d = 0 ∧ i = k + 2 ∧ m = 0)),
      ⟨k + 1, 1, 1, rfl, same_upd nT, .inl ⟨k, by decide, hk, by omega, rfl⟩⟩, ?_⟩
    rintro m σ H2 ⟨i, d, rfl, sm, hw⟩
    refine ⟨_, rfl, _, _, rfl, rfl, _, rfl, ?_⟩
    rcases hw with ⟨k2, hd, hs, hi, rfl⟩ | ⟨rfl, rfl, rfl⟩
    · refine ifT (decide_eq_true (by omega)) ?_
      have hil : i < (true :: r).length := by
        simp only [List.length_cons]
        omega
      rw [drop_at hil] at hs
      have hat : (S (true :: r)).cps.toList[i]? = some (sg (true :: r)[i]) := by
        rw [S_cps, List.getElem?_map, List.getElem?_eq_getElem hil] <;> rfl
      have one := S_is1 (true :: r)[i]
      refine ⟨fun σ H3 => ∃ i d : Nat, σ = [some (.str (S (true :: r))), some (.int (d : Int)), some (.int (i : Int))] ∧ Same H H3 ∧ ((∃ k3, 0 < d ∧ scan d ((true :: r).drop i) = some k3 ∧ i + k3 = k + 1 ∧ k3 < k2) ∨ (d = 0 ∧ i = k + 2)), fun σ2 H3 hN => ?_, ?_⟩
      · obtain ⟨i2, d2, e1, e2, h3⟩ := hN
        rcases h3 with ⟨k3, a1, a2, a3, a4⟩ | ⟨a1, a2⟩
        · exact ⟨k3 + 1, by omega, i2, d2, e1, e2, .inl ⟨k3, a1, a2, a3, rfl⟩⟩
        · exact ⟨0, by omega, i2, d2, e1, e2, .inr ⟨a1, a2, rfl⟩⟩
      have fin : ∀ e : Int, e = (if (true :: r)[i] = true then (d : Int) + 1 else (d : Int) - 1) →
          ∃ i2 d2 : Nat, [some (V.str (S (true :: r))), some (.int e), some (.int ((i : Int) + 1))] = [some (.str (S (true :: r))), some (.int (d2 : Int)), some (.int (i2 : Int))] ∧ Same H H2 ∧ ((∃ k3, 0 < d2 ∧ scan d2 ((true :: r).drop i2) = some k3 ∧ i2 + k3 = k + 1 ∧ k3 < k2) ∨ (d2 = 0 ∧ i2 = k + 2)) := by
        rintro e rfl
        rcases scan_step d _ _ k2 hs with ⟨ez, rfl⟩ | ⟨e2, k3, pe, ee, hs2, rfl⟩
        · exact ⟨i + 1, 0, by rw [ez] <;> rfl, sm, .inr ⟨rfl, by omega⟩⟩
        · exact ⟨i + 1, e2, by rw [ee] <;> rfl, sm, .inl ⟨k3, pe, hs2, by omega, by omega⟩⟩
      refine ⟨_, rfl, _, rfl, _, rfl, S (true :: r), (i : Int), sg (true :: r)[i], rfl, rfl, hz, atI_nat hat, rfl, _, rfl, ?_⟩
      cases hb : (true :: r)[i] with
      | true =>
        rw [hb] at one fin
        refine ifT one ⟨_, _, rfl, rfl, _, rfl, _, _, rfl, rfl, ?_⟩
        exact fin _ rfl
      | false =>
        rw [hb] at one fin
        refine ifF (fun z => by cases one.symm.trans z) ⟨1, rfl, _, _, rfl, rfl, _, rfl, _, _, rfl, rfl, ?_⟩
        exact fin _ (by rw [if_neg (by decide)]; omega)
    · refine ifF (by decide) ?_
      have c1 : cutS (S (true :: r)) (some 1) (some (((k + 2 : Nat) : Int) - 1)) = S (r.take k) := by
        have e : ((k + 2 : Nat) : Int) - 1 = ((k + 1 : Nat) : Int) := by omega
        rw [e]
        exact (S_cut (true :: r) 1 (k + 1)).trans (by simp)
      have c2 : cutS (S (true :: r)) (some ((k + 2 : Nat) : Int)) none = S (r.drop (k + 1)) := (S_cutFrom (true :: r) (k + 2)).trans (by simp)
      have l1 : (r.take k).length ≤ 1000 := by
        rw [List.length_take]
        simp only [List.length_cons] at hu
        omega
      have l2 : (r.drop (k + 1)).length ≤ 1000 := by
        rw [List.length_drop]
        simp only [List.length_cons] at hu
        omega
      refine ⟨_, rfl, 1, rfl, _, rfl, _, _, rfl, rfl, _, rfl, _, rfl, hz, _, _, rfl, rfl, ?_⟩
      rw [c1, S_one, S_app]
      refine ⟨S_small2 (n := 2000) (by simp only [List.length_singleton]; omega) (by omega), ?_⟩
      refine ⟨_, rfl, _, rfl, _, rfl, _, rfl, hz, _, _, rfl, rfl, ?_⟩
      rw [c2, S_app]
      refine ⟨S_small2 (n := 3000) (by rw [List.length_append]; simp only [List.length_singleton]; omega) (by omega), _, _, rfl, rfl, ?_⟩
      rw [S_zero, S_app]
      exact ⟨S_small2 (n := 4000) (by rw [List.length_append, List.length_append]; simp only [List.length_singleton]; omega) (by omega), q H2 sm⟩
theorem scLTurns : FnScope ["_law_word", "_law_found", "_law_each"] ["_law_word"] (defScope sLTurns) := ⟨rfl, rfl, rfl, by decide +kernel, rfl, by decide +kernel, by decide +kernel⟩
theorem ok_lturns {f f1 : Addr} {fd fd1 : FuncData} (D : Df K mg "_law_turns" sLTurns f fd ["_law_word"]) (D1 : Df K mg "_law_turned" sLTurned f1 fd1 ["_law_word"]) (G1 : FnOk P w K mg base CX0 1 f1 fd1 ["_law_word"] spTurned) :
    FnOk P w K mg base CX0 2 f fd ["_law_word"] spTurns := by
  refine D.fn.ok scLTurns (fun vs H Q E h => ?_) (fun cdv A outer s H vs Q E hr h => ?_)
  · obtain ⟨u, ts, rfl, _⟩ := h
    rfl
  · obtain ⟨u, ts, rfl, ht, hu, q⟩ := h
    have nd := scLTurns.nd
    refine ⟨_, pss_cons (ps_par (i := 1) (j := 2) (by rfl) nd rfl rfl (by decide) rfl rfl (pa_cons (pe_lst (pa_cons (pv 0) pa_nil)) (pa_cons (pe_call G1 hr (by rfl) D1.gl D1.fn.kp D1.bd .nil pass0 (pa_cons (pv 0) pa_nil)) pa_nil)) (by rfl))
      (pss_cons (ps_while PassesOwn.never (pt_cmpR op_ne (pv 2) (pv 0) (nomark _))
        (pss_cons (ps_expr (pe_bm PySem.F.plainAttrs_list PySem.F.slot_list_append PySem.F.type_list_append mt_append (pv 1) (pa_cons (pv 2) pa_nil)))
          (pss_one (ps_set (i := 2) nd rfl (Or.inl rfl) (pe_call G1 hr (by rfl) D1.gl D1.fn.kp D1.bd .nil pass0 (pa_cons (pv 2) pa_nil))))))
      (pss_one (ps_ret (pv 1)))), ?_⟩
    obtain ⟨l0, rest0, h1, h2, rfl⟩ := turnsOf_spec ht
    have tl := (turnsOf_len ht).1
    refine ⟨.str (S u), rfl, by show 1 ≤ sizeLine; decide, fun fn nfn => ⟨.str (S u), rfl, u, l0, rfl, h1, hu, fun H1 sm1 => ?_⟩⟩
    have sm0 : Same H H1 := (same_upd nfn).trans sm1
    have hf1 : H1 fn = some (.lst (tx [u])) := sm1 fn _ upd_same
    refine ⟨_, _, rfl, ?_⟩
    refine ⟨fun m σ H2 => ∃ (l : W) (pre rest : List W), σ = [some (.str (S u)), some (.ref fn), some (.str (S l))] ∧ H2 fn = some (.lst (tx pre)) ∧ Same H H2 ∧ turnsO u m l = some rest ∧ u :: rest0 = pre ++ rest ∧ l.length = u.length,
      ⟨40, l0, [u], rest0, rfl, hf1, sm0, h2, rfl, turn_len h1⟩, ?_⟩
    rintro m σ H2 ⟨l, pre, rest, rfl, hf, sm, hr2, ets, hl⟩
    refine ⟨_, rfl, _, rfl, rfl, _, rfl, ?_⟩
    obtain ⟨g, rfl, ⟨rfl, rfl⟩ | ⟨hne, l1, ts1, ht1, hr3, rfl⟩⟩ := turns_step hr2
    · refine ifF (by simp) ?_
      rw [List.append_nil] at ets
      exact ⟨_, rfl, q H2 fn sm nfn (by rw [ets]; exact hf)⟩
    · have hne2 : ¬ (V.str (S l) = V.str (S u)) := fun e => hne (S_inj (V.str.inj e))
      refine ifT (by simp [hne2]) ?_
      refine ⟨fun σ2 H3 => ∃ (l : W) (pre rest : List W), σ2 = [some (.str (S u)), some (.ref fn), some (.str (S l))] ∧ H3 fn = some (.lst (tx pre)) ∧ Same H H3 ∧ turnsO u g l = some rest ∧ u :: rest0 = pre ++ rest ∧ l.length = u.length,
        fun σ2 H3 hN => ⟨g, Nat.lt_succ_self _, hN⟩, ?_⟩
      have lp : pre.length ≤ 41 := by
        have := congrArg List.length ets
        rw [List.length_append] at this
        omega
      refine ⟨.ref fn, rfl, .inl ⟨rfl, _, .of hf⟩, .str (S l), rfl, fn, _, _, rfl, rfl, hf, ?_, ?_⟩
      · rw [tx_len]
        exact small1000 (by omega)
      · refine ⟨.str (S l), rfl, l, l1, rfl, ht1, by omega, fun H3 sm3 => ?_⟩
        refine ⟨l1, pre ++ [l], ts1, rfl, ?_, (same_upd2 sm nfn).trans sm3, hr3, by rw [ets]; simp, (turn_len ht1).trans hl⟩
        rw [tx_app]
        exact sm3 fn _ upd_same
end
end K15
namespace K15
open PySem PySem.Spec PyProof.Rows L2
/-! ### all words, as the law puts them together -/
def blkOf (tab : List (List W)) (many part : Nat) (inner : W) : List W := (tab.getD (many - 1 - part) []).map fun b => true :: inner ++ false :: b
def prtOf (tab : List (List W)) (many part : Nat) : List W := ((tab.getD part []).map (blkOf tab many part)).flatten
def upTo (tab : List (List W)) (many i : Nat) : List W := ((List.range i).map (prtOf tab many)).flatten
theorem upTo_succ (tab : List (List W)) (many i : Nat) : upTo tab many (i + 1) = upTo tab many i ++ prtOf tab many i := by
  unfold upTo
  rw [List.range_succ, List.map_append, List.flatten_append]
  simp
theorem upTo_all (tab : List (List W)) (many : Nat) : upTo tab many many = rowOf tab many := rfl
theorem upTo_le (tab : List (List W)) (many i : Nat) : ∀ k, (upTo tab many i).length ≤ (upTo tab many (i + k)).length
  | 0 => Nat.le_refl _
  | k + 1 => by
    have := upTo_le tab many i k
    rw [← Nat.add_assoc, upTo_succ, List.length_append]
    omega
theorem flat_take (l : List W) (f : W → List W) (j : Nat) : (((l.take j).map f).flatten).length ≤ ((l.map f).flatten).length := by
  conv => rhs; rw [← List.take_append_drop j l, List.map_append, List.flatten_append, List.length_append]
  omega
theorem mid_le {tab : List (List W)} {many i j : Nat} (hi : i < many) : (upTo tab many i ++ (((tab.getD i []).take j).map (blkOf tab many i)).flatten).length ≤ (rowOf tab many).length := by
  have h1 := flat_take (tab.getD i []) (blkOf tab many i) j
  have h2 := upTo_le tab many (i + 1) (many - (i + 1))
  rw [show i + 1 + (many - (i + 1)) = many by omega, upTo_all, upTo_succ, List.length_append] at h2
  rw [List.length_append]
  unfold prtOf at h2
  omega
theorem tab_sub : ∀ (k i : Nat) (r : List W), r ∈ tabOf i → r ∈ tabOf (i + k)
  | 0, _, _, h => h
  | k + 1, i, r, h => by
    have := tab_sub k i r h
    rw [← Nat.add_assoc]
    show r ∈ tabOf (i + k) ++ _
    exact List.mem_append_left _ this
theorem tab_small (hs : smallTab 7 = true) {i : Nat} (hi : i ≤ 7) {r : List W} (hr : r ∈ tabOf i) : r.length ≤ 500 ∧ ∀ x ∈ r, x.length ≤ 20 := by
  have h1 : r ∈ tabOf 7 := by
    have := tab_sub (7 - i) i r hr
    rwa [show i + (7 - i) = 7 by omega] at this
  have h2 := List.all_eq_true.mp hs r h1
  rw [Bool.and_eq_true] at h2
  exact ⟨Nat.le_of_ble_eq_true h2.1, fun x hx => Nat.le_of_ble_eq_true (List.all_eq_true.mp h2.2 x hx)⟩
/-- at fn a list of lists of words, none of which stood in H0 -/
structure TabAt (H0 H : Hp) (fn : Addr) (ads : List Addr) (tab : List (List W)) : Prop where
  at_f : H fn = some (.lst (ads.map V.ref))
  len : ads.length = tab.length
  row : ∀ (j : Nat) (a : Addr), ads[j]? = some a → a ≠ fn ∧ H0 a = none ∧ H a = some (.lst (tx (tab.getD j [])))
theorem TabAt.keep {H0 H H1 : Hp} {fn : Addr} {ads : List Addr} {tab : List (List W)} (T : TabAt H0 H fn ads tab) (s : Same H H1) : TabAt H0 H1 fn ads tab :=
  ⟨s _ _ T.at_f, T.len, fun j a h => ⟨(T.row j a h).1, (T.row j a h).2.1, s _ _ (T.row j a h).2.2⟩⟩
theorem TabAt.more {H0 H : Hp} {fn p : Addr} {ads : List Addr} {tab : List (List W)} {r : List W} (T : TabAt H0 H fn ads tab) (hp : H p = some (.lst (tx r))) (np : p ≠ fn) (p0 : H0 p = none) : TabAt H0 (upd H fn (.lst (ads.map V.ref ++ [.ref p]))) fn (ads ++ [p]) (tab ++ [r]) := by
  refine ⟨by rw [upd_same, List.map_append] <;> rfl, by rw [List.length_append, List.length_append, T.len] <;> rfl, fun j a h => ?_⟩
  by_cases hj : j < ads.length
  · rw [List.getElem?_append_left hj] at h
    obtain ⟨h1, h2, h3⟩ := T.row j a h
    refine ⟨h1, h2, ?_⟩
    rw [upd_ne h1, h3, List.getD_eq_getElem?_getD, List.getD_eq_getElem?_getD, List.getElem?_append_left (by rw [← T.len]; exact hj)]
  · rw [List.getElem?_append_right (by omega)] at h
    have e : j = ads.length := by
      have := (List.getElem?_eq_some_iff.mp h).1
      simp at this
      omega
    subst e
    rw [Nat.sub_self] at h
    have ea : p = a := Option.some.inj h
    subst ea
    refine ⟨np, p0, ?_⟩
    rw [upd_ne np, hp, List.getD_eq_getElem?_getD, T.len, List.getElem?_append_right (Nat.le_refl _)]
    simp
section
variable {P : Program} {w : World} {K : PySem.W.Frag} {mg : Str → Option Value} {base : Heap}
def spLAll : Sp := fun vs H Q _ => ∃ n : Nat, vs = [.int n] ∧ 1 ≤ n ∧ n ≤ 7 ∧ ∀ H1 p, Same H H1 → H p = none → H1 p = some (.lst (tx (lawAll n))) → Q (.ref p) H1
theorem scLAll : FnScope ["_law_pairs", "_law_found", "_law_many", "_law_some", "_law_part", "_law_inner", "_law_behind"] ["_law_pairs"] (defScope sLAll) := ⟨rfl, rfl, rfl, by decide +kernel, rfl, by decide +kernel, by decide +kernel⟩
theorem ok_lall {f : Addr} {fd : FuncData} (D : Df K mg "_law_all" sLAll f fd ["_law_pairs"]) (B : Bl mg) (hs : smallTab 7 = true) : FnOk P w K mg base CX0 1 f fd ["_law_pairs"] spLAll := by
  refine D.fn.ok scLAll (fun vs H Q E h => ?_) (fun cdv A outer s H vs Q E hr h => ?_)
  · obtain ⟨n, rfl, _⟩ := h
    rfl
  · obtain ⟨n, rfl, h1, h7, q⟩ := h
    have nd := scLAll.nd
    refine ⟨_, pss_cons (ps_set (i := 1) nd rfl (Or.inl rfl) (pe_lst (pa_cons (pe_lst (pa_cons pe_str pa_nil)) pa_nil)))
      (pss_cons (ps_for PassesOwn.never rfl (pi_range2 (by rfl) B.rng (pa_cons pe_int (pa_cons (pe_op op_add (pv 0) pe_int) pa_nil))) (pg_name (i := 2) nd rfl (Or.inl rfl))
        (pss_cons (ps_set (i := 3) nd rfl (Or.inl rfl) (pe_lst pa_nil))
        (pss_cons (ps_for PassesOwn.never rfl (pi_range1 (by rfl) B.rng (pa_cons (pv 2) pa_nil)) (pg_name (i := 4) nd rfl (Or.inl rfl))
          (pss_one (ps_for PassesOwn.never rfl (pi_list (pe_ix ix_list (pv 1) (pv 4) (fun _ _ => rfl))) (pg_name (i := 5) nd rfl (Or.inr rfl))
            (pss_one (ps_set (i := 3) nd rfl (Or.inl rfl) (pe_op op_cat (pv 3)
              (pe_lc (own := [("_law_behind", 6)]) (g := gName 6) (tt := tYes) (by rfl) nd (pi_list (pe_ix ix_list (pv 1) (pe_op op_sub (pe_op op_sub (pv 2) pe_int) (pv 4)) (fun _ _ => rfl)))
                (blkOk_by (own := [("_law_behind", 6)]) (N := ["_law_pairs", "_law_found", "_law_many", "_law_some", "_law_part", "_law_inner", "_law_behind"]) (sc := defScope sLAll) (by decide +kernel))
                (fun _ _ _ _ _ => pg_name (i := 6) nd rfl (Or.inl rfl)) (fun _ _ _ _ _ => pts_nil)
                (fun _ _ _ _ _ => pe_op op_add_str (pe_op op_add_str (pe_op op_add_str pe_str (pv 5)) pe_str) (pv 6)))))))))
        (pss_one (ps_expr (pe_bm PySem.F.plainAttrs_list PySem.F.slot_list_append PySem.F.type_list_append mt_append (pv 1) (pa_cons (pv 3) pa_nil)))))))
      (pss_one (ps_ret (pe_ix ix_list (pv 1) (pv 0) (fun _ _ => rfl))))), ?_⟩
    refine ⟨by show 1 ≤ sizeLine; decide, fun a0 na0 => ⟨by show 1 ≤ sizeLine; decide, fun fn nfn => ?_⟩⟩
    have nfa : a0 ≠ fn := ne_of_none upd_same nfn
    have sm0 : Same H (upd (upd H a0 (.lst [V.str (Str.ofString "")])) fn (.lst [V.ref a0])) := (same_upd na0).trans (same_upd nfn)
    have nfn0 : H fn = none := (same_upd na0).free nfn
    have T0 : TabAt H (upd (upd H a0 (.lst [V.str (Str.ofString "")])) fn (.lst [V.ref a0])) fn [a0] (tabOf 0) := by
      refine ⟨upd_same, rfl, fun j a h => ?_⟩
      cases j with
      | succ j => simp at h
      | zero =>
        have ea : a0 = a := by simpa using h
        subst ea
        refine ⟨nfa, na0, ?_⟩
        rw [upd_ne nfa, upd_same, S_nil] <;> rfl
    generalize (upd (upd H a0 (.lst [V.str (Str.ofString "")])) fn (.lst [V.ref a0])) = Hs at sm0 T0
    refine ⟨_, rfl, _, _, rfl, rfl, 1, (n : Int) + 1, rfl, ⟨by omega, by omega, by omega, by omega⟩, ?_⟩
    rw [show (((n : Int) + 1) - 1).toNat = n by omega]
    refine for_range (fun i σ H2 => ∃ (ads : List Addr) (c2 c3 c4 c5 c6 : Option V), σ = [some (.int (n : Int)), some (.ref fn), c2, c3, c4, c5, c6] ∧ TabAt H H2 fn ads (tabOf i) ∧ Same H H2) ⟨[a0], none, none, none, none, none, rfl, T0, sm0⟩ ?_ ?_
    · rintro i σ H2 hi ⟨ads, c2, c3, c4, c5, c6, rfl, T, sm⟩
      have ei : (1 : Int) + (i : Int) = ((i + 1 : Nat) : Int) := by omega
      rw [ei]
      have tl := tabOf_len i
      have rows : ∀ r ∈ tabOf i, r.length ≤ 500 ∧ ∀ x ∈ r, x.length ≤ 20 := fun r hr => tab_small hs (by omega) hr
      have rowN : (rowOf (tabOf i) (i + 1)).length ≤ 500 := (tab_small hs (i := i + 1) (by omega) (List.mem_append_right _ (List.mem_singleton.mpr rfl))).1
      have getr : ∀ j, ((tabOf i).getD j []).length ≤ 500 ∧ ∀ x ∈ (tabOf i).getD j [], x.length ≤ 20 := fun j => by
        by_cases hj : j < (tabOf i).length
        · rw [List.getD_eq_getElem?_getD, List.getElem?_eq_getElem hj]
          exact rows _ (List.getElem_mem hj)
        · rw [List.getD_eq_getElem?_getD, List.getElem?_eq_none (by omega)]
          simp
      have esucc : tabOf (i + 1) = tabOf i ++ [rowOf (tabOf i) (i + 1)] := rfl
      generalize tabOf i = tab at T tl rows rowN getr esucc
      refine ⟨Nat.zero_le _, fun p0 np0 => ?_⟩
      have np0f : p0 ≠ fn := fun e => by
        rw [e, T.at_f] at np0
        cases np0
      refine ⟨_, rfl, ((i + 1 : Nat) : Int), rfl, by omega, by omega, ?_⟩
      rw [Int.toNat_natCast]
      refine for_range (fun k σ H3 => ∃ (p : Addr) (c4 c5 c6 : Option V), σ = [some (.int (n : Int)), some (.ref fn), some (.int ((i + 1 : Nat) : Int)), some (.ref p), c4, c5, c6] ∧ TabAt H H3 fn ads tab ∧ Same H H3 ∧ H p = none ∧ p ≠ fn ∧ H3 p = some (.lst (tx (upTo tab (i + 1) k))))
        ⟨p0, c4, c5, c6, rfl, T.keep (same_upd np0), sm.trans (same_upd np0), sm.free np0, np0f, upd_same⟩ ?_ ?_
      · rintro k σ H3 hk ⟨p, c4, c5, c6, rfl, T3, sm3, p0n, pfn, hp⟩
        have ek : (0 : Int) + (k : Int) = ((k : Nat) : Int) := by omega
        rw [ek]
        have hka : k < ads.length := by
          rw [T3.len]
          omega
        have hk2 : i - k < ads.length := by
          rw [T3.len]
          omega
        obtain ⟨naf, na0, ha⟩ := T3.row k ads[k] (List.getElem?_eq_getElem hka)
        refine ⟨_, rfl, _, rfl, fn, _, (k : Int), .ref ads[k], rfl, rfl, .of T3.at_f, atI_nat (by rw [List.getElem?_map, List.getElem?_eq_getElem hka] <;> rfl), ads[k], rfl, ⟨_, .of ha⟩, ?_⟩
        refine for_it (walk_list (K := K) (xs := tx (tab.getD k []))) (fun j σ H4 => ∃ (p : Addr) (c5 c6 : Option V), σ = [some (.int (n : Int)), some (.ref fn), some (.int ((i + 1 : Nat) : Int)), some (.ref p), some (.int (k : Int)), c5, c6] ∧ TabAt H H4 fn ads tab ∧ Same H H4 ∧ H p = none ∧ p ≠ fn ∧
            H4 p = some (.lst (tx (upTo tab (i + 1) k ++ (((tab.getD k []).take j).map (blkOf tab (i + 1) k)).flatten))))
          ⟨p, c5, c6, rfl, T3, sm3, p0n, pfn, by rw [hp]; simp⟩ (fun j σ H4 _ ⟨_, _, _, _, T4, _⟩ => .of (T4.row k ads[k] (List.getElem?_eq_getElem hka)).2.2) ?_ ?_
        · rintro j x σ H4 H5 hj ⟨p, c5, c6, rfl, T4, sm4, p0n, pfn, hp⟩ ⟨rfl, hx⟩
          obtain ⟨hj2, rfl⟩ := tx_get hx
          generalize hinn : (tab.getD k [])[j] = inn
          have linn : inn.length ≤ 20 := by
            rw [← hinn]
            exact (getr k).2 _ (List.getElem_mem hj2)
          obtain ⟨naf2, na02, ha2⟩ := T4.row (i - k) ads[i - k] (List.getElem?_eq_getElem hk2)
          have eix : ((i + 1 : Nat) : Int) - 1 - (k : Int) = ((i - k : Nat) : Int) := by omega
          refine ⟨_, rfl, _, rfl, _, rfl, _, _, rfl, rfl, _, rfl, _, _, rfl, rfl, fn, _, _, .ref ads[i - k], rfl, rfl, .of T4.at_f, ?_, ads[i - k], rfl, ⟨_, .of ha2⟩, fun L nL => ?_⟩
          · rw [eix]
            exact atI_nat (by rw [List.getElem?_map, List.getElem?_eq_getElem hk2] <;> rfl)
          have nLp : p ≠ L := ne_of_none hp nL
          refine lc_it (walk_list (K := K) (xs := tx (tab.getD (i - k) []))) (fun z H6 => TabAt H H6 fn ads tab ∧ Same H H6 ∧ H6 p = some (.lst (tx (upTo tab (i + 1) k ++ (((tab.getD k []).take j).map (blkOf tab (i + 1) k)).flatten))) ∧
              H6 L = some (.lst (tx (((tab.getD (i - k) []).take z).map fun b => true :: inn ++ false :: b))))
            ⟨T4.keep (same_upd nL), sm4.trans (same_upd nL), by rw [upd_ne nLp]; exact hp, upd_same⟩ (fun z H6 _ ⟨T6, _⟩ => .of (T6.row (i - k) ads[i - k] (List.getElem?_eq_getElem hk2)).2.2) ?_ ?_
          · rintro z y H6 H7 hz ⟨T6, sm6, hp6, hL6⟩ ⟨rfl, hy⟩
            obtain ⟨hz2, rfl⟩ := tx_get hy
            have lb : ((tab.getD (i - k) [])[z]).length ≤ 20 := (getr (i - k)).2 _ (List.getElem_mem hz2)
            have lrow := (getr (i - k)).1
            refine ⟨rfl, _, rfl, _, _, rfl, rfl, ?_⟩
            rw [S_one, S_app]
            refine ⟨S_small2 (n := 100) (by simp only [List.length_singleton]; omega) (by omega), _, _, rfl, rfl, ?_⟩
            rw [S_zero, S_app]
            refine ⟨S_small2 (n := 100) (by rw [List.length_append]; simp only [List.length_singleton]; omega) (by omega), _, rfl, _, _, rfl, rfl, ?_⟩
            rw [S_app]
            refine ⟨S_small2 (n := 100) (by rw [List.length_append, List.length_append]; simp only [List.length_singleton]; omega) (by omega), _, hL6, ?_, ?_⟩
            · rw [tx_len, List.length_map, List.length_take]
              exact small1000 (by omega)
            · have nLf : fn ≠ L := ne_of_none T4.at_f nL
              refine ⟨⟨by rw [upd_ne nLf]; exact T6.at_f, T6.len, fun j2 a2 h2 => ?_⟩, same_upd2 sm6 (sm4.free nL), by rw [upd_ne nLp]; exact hp6, ?_⟩
              · obtain ⟨b1, b2, b3⟩ := T6.row j2 a2 h2
                have b4 := (T4.row j2 a2 h2).2.2
                exact ⟨b1, b2, by rw [upd_ne (ne_of_none b4 nL)]; exact b3⟩
              · rw [upd_same, List.take_succ_eq_append_getElem hz2, List.map_append, tx_app]
                simp [tx]
          · rintro H6 ⟨T6, sm6, hp6, hL6⟩
            rw [tx_len, List.take_length] at hL6
            refine ⟨p, L, _, _, rfl, rfl, hp6, hL6, ?_, fun p2 np2 => ?_⟩
            · have hm := mid_le (tab := tab) (i := k) (j := j) (many := i + 1) hk
              have hr2 := (getr (i - k)).1
              rw [tx_len, tx_len, List.length_map, sizeLine_eq]
              omega
            · have np2f : p2 ≠ fn := fun e => by
                rw [e, T6.at_f] at np2
                cases np2
              refine ⟨p2, _, _, rfl, T6.keep (same_upd np2), sm6.trans (same_upd np2), sm6.free np2, np2f, ?_⟩
              rw [upd_same, ← tx_app, List.append_assoc, List.take_succ_eq_append_getElem hj2, List.map_append, List.flatten_append, hinn]
              congr 3
              simp only [List.map_cons, List.map_nil, List.flatten_cons, List.flatten_nil, List.append_nil, blkOf]
              rw [show i + 1 - 1 - k = i - k by omega]
        · rintro σ H4 ⟨p, c5, c6, rfl, T4, sm4, p0n, pfn, hp⟩
          refine ⟨p, _, _, _, rfl, T4, sm4, p0n, pfn, ?_⟩
          rw [tx_len, List.take_length] at hp
          rw [hp, upTo_succ] <;> rfl
      · rintro σ H3 ⟨p, c4, c5, c6, rfl, T3, sm3, p0n, pfn, hp⟩
        rw [upTo_all] at hp
        have la := T3.len
        refine ⟨.ref fn, rfl, .inl ⟨rfl, _, .of T3.at_f⟩, .ref p, rfl, fn, _, _, rfl, rfl, T3.at_f, ?_, ?_⟩
        · rw [List.length_map]
          exact small1000 (by omega)
        · exact ⟨ads ++ [p], _, _, _, _, _, rfl, by rw [esucc]; exact T3.more hp pfn p0n, same_upd2 sm3 nfn0⟩
    · rintro σ H2 ⟨ads, c2, c3, c4, c5, c6, rfl, T, sm⟩
      have la := T.len
      rw [tabOf_len] at la
      have hn : n < ads.length := by omega
      obtain ⟨b1, b2, b3⟩ := T.row n ads[n] (List.getElem?_eq_getElem hn)
      refine ⟨_, rfl, _, rfl, fn, _, (n : Int), .ref ads[n], rfl, rfl, .of T.at_f, atI_nat (by rw [List.getElem?_map, List.getElem?_eq_getElem hn] <;> rfl), ?_⟩
      exact q H2 ads[n] sm b2 b3
end
end K15
namespace K15
open PySem PySem.Spec PyProof.Rows L2
/-! ### the law's own lots -/
theorem marks_bit : ∀ (l : List W) (m : Nat) (x : W), (marks m l).testBit (code x) = (m.testBit (code x) || decide (x ∈ l))
  | [], m, x => by simp [marks]
  | y :: l, m, x => by
    rw [marks, marks_bit l _ x, mark_bit]
    by_cases h : y = x
    · subst h
      simp
    · have h2 : ¬ x = y := fun e => h e.symm
      simp [h, h2]
def lotKv (L : List (W × List W)) (ads : List Addr) : List (Key × V) := List.zipWith (fun p a => (Sum.inr (S p.1), V.ref a)) L ads
theorem lotKv_snoc {L : List (W × List W)} {ads : List Addr} (h : ads.length = L.length) (p : W × List W) (a : Addr) : lotKv (L ++ [p]) (ads ++ [a]) = lotKv L ads ++ [(Sum.inr (S p.1), V.ref a)] := by
  unfold lotKv
  rw [List.zipWith_append h.symm] <;> rfl
theorem lotKv_len {L : List (W × List W)} {ads : List Addr} (h : ads.length = L.length) : (lotKv L ads).length = L.length := by
  unfold lotKv
  rw [List.length_zipWith]
  omega
theorem lotKv_none : ∀ (L : List (W × List W)) (ads : List Addr) (x : W), x ∉ L.map (·.1) → valV (lotKv L ads) (.inr (S x)) = none
  | [], _, _, _ => rfl
  | _ :: _, [], _, _ => rfl
  | p :: L, a :: ads, x, h => by
    have h1 : ¬ ((Sum.inr (S p.1) : Key) = Sum.inr (S x)) := fun e => h (by
      have := S_inj (Sum.inr.inj e)
      simp [this])
    have e : valV (lotKv (p :: L) (a :: ads)) (.inr (S x)) = valV (lotKv L ads) (.inr (S x)) := valV_neg h1
    rw [e]
    exact lotKv_none L ads x fun hm => h (List.mem_cons_of_mem _ hm)
/-- at d the dict of the lots L, its lists at ads; nothing of it stood in H0 -/
structure Lots (H0 H : Hp) (d : Addr) (ads : List Addr) (L : List (W × List W)) : Prop where
  at_d : H d = some (.dK (lotKv L ads))
  len : ads.length = L.length
  row : ∀ (j : Nat) (a : Addr) (p : W × List W), ads[j]? = some a → L[j]? = some p → a ≠ d ∧ H0 a = none ∧ H a = some (.lst (tx p.2))
theorem Lots.keep {H0 H H1 : Hp} {d : Addr} {ads : List Addr} {L : List (W × List W)} (T : Lots H0 H d ads L) (s : Same H H1) : Lots H0 H1 d ads L :=
  ⟨s _ _ T.at_d, T.len, fun j a p h1 h2 => ⟨(T.row j a p h1 h2).1, (T.row j a p h1 h2).2.1, s _ _ (T.row j a p h1 h2).2.2⟩⟩
theorem Lots.keepX {H0 H H1 : Hp} {g d : Addr} {ads : List Addr} {L : List (W × List W)} (T : Lots H0 H d ads L) (s : SameX g H H1) (nd : d ≠ g) (na : ∀ (j : Nat) (a : Addr), ads[j]? = some a → a ≠ g) : Lots H0 H1 d ads L :=
  ⟨s _ _ nd T.at_d, T.len, fun j a p h1 h2 => ⟨(T.row j a p h1 h2).1, (T.row j a p h1 h2).2.1, s _ _ (na j a h1) (T.row j a p h1 h2).2.2⟩⟩
theorem Lots.more {H0 H : Hp} {d p : Addr} {ads : List Addr} {L : List (W × List W)} {u : W} {ts : List W} (T : Lots H0 H d ads L) (hp : H p = some (.lst (tx ts))) (np : p ≠ d) (p0 : H0 p = none) (hu : u ∉ L.map (·.1)) :
    Lots H0 (upd H d (.dK (putK (lotKv L ads) (.inr (S u)) (.ref p)))) d (ads ++ [p]) (L ++ [(u, ts)]) := by
  refine ⟨?_, by rw [List.length_append, List.length_append, T.len] <;> rfl, fun j a q h1 h2 => ?_⟩
  · rw [upd_same, putK_new _ (lotKv_none L ads u hu), lotKv_snoc T.len]
  · by_cases hj : j < ads.length
    · rw [List.getElem?_append_left hj] at h1
      rw [List.getElem?_append_left (by rw [← T.len]; exact hj)] at h2
      obtain ⟨b1, b2, b3⟩ := T.row j a q h1 h2
      exact ⟨b1, b2, by rw [upd_ne b1]; exact b3⟩
    · rw [List.getElem?_append_right (by omega)] at h1
      rw [List.getElem?_append_right (by rw [← T.len]; omega)] at h2
      have e : j = ads.length := by
        have := (List.getElem?_eq_some_iff.mp h1).1
        simp at this
        omega
      subst e
      rw [Nat.sub_self] at h1
      rw [T.len, Nat.sub_self] at h2
      have ea : p = a := Option.some.inj h1
      have eq : (u, ts) = q := Option.some.inj h2
      subst ea
      subst eq
      exact ⟨np, p0, by rw [upd_ne np]; exact hp⟩
section
variable {P : Program} {w : World} {K : PySem.W.Frag} {mg : Str → Option Value} {base : Heap}
def spLLots (K : PySem.W.Frag) : Sp := fun vs H Q _ => ∃ (a : Addr) (l0 ws : List W) (L : List (W × List W)), vs = [.ref a] ∧ SqL K H a (tx l0) ∧ (∀ ys : List Str, ys.Perm (l0.map S) → sortedS ys = true → ys = ws.map S) ∧ treesB ws 0 = some L ∧ ws.length ≤ 1000 ∧ (∀ x ∈ ws, x.length ≤ 100) ∧
  ∀ H1 d ads, Same H H1 → H d = none → Lots H H1 d ads L → Q (.ref d) H1
theorem scLLots : FnScope ["_law_words", "_law_found", "_law_met", "_law_word", "_law_each"] ["_law_words"] (defScope sLLots) := ⟨rfl, rfl, rfl, by decide +kernel, rfl, by decide +kernel, by decide +kernel⟩
theorem ok_llots {f f1 : Addr} {fd fd1 : FuncData} (D : Df K mg "_law_lots" sLLots f fd ["_law_words"]) (B : Bl mg) (D1 : Df K mg "_law_turns" sLTurns f1 fd1 ["_law_word"]) (G1 : FnOk P w K mg base CX0 2 f1 fd1 ["_law_word"] spTurns) :
    FnOk P w K mg base CX0 3 f fd ["_law_words"] (spLLots K) := by
  refine D.fn.ok scLLots (fun vs H Q E h => ?_) (fun cdv A outer s H vs Q E hr h => ?_)
  · obtain ⟨a, l0, ws, L, rfl, _⟩ := h
    rfl
  · obtain ⟨a, l0, ws, L, rfl, hS, hsort, hL, hwl, hlen, q⟩ := h
    have nd := scLLots.nd
    have hu := hu_of hr
    refine ⟨_, pss_cons (ps_par (i := 1) (j := 2) (by rfl) nd rfl rfl (by decide) rfl rfl (pa_cons pe_dnewK (pa_cons pe_dnewK pa_nil)) (by rfl))
      (pss_cons (ps_for PassesOwn.never rfl (pi_list (pe_callB cr_sortA (by rfl) B.sor (by decide +kernel) (pa_cons (pv 0) pa_nil))) (pg_name (i := 3) nd rfl (Or.inl rfl))
        (pss_one (ps_if (pt_cmp (pc_dnotin hu (pv 3) (pv 2)))
          (pss_cons (ps_dput hu (pv 1) (pv 3) (pe_call G1 hr (by rfl) D1.gl D1.fn.kp D1.bd .nil pass0 (pa_cons (pv 3) pa_nil)) rfl)
            (pss_one (ps_for PassesOwn.never rfl (pi_list (pe_dget hu (pv 1) (pv 3) (fun _ _ => rfl))) (pg_name (i := 4) nd rfl (Or.inl rfl))
              (pss_one (ps_dput hu (pv 2) (pv 4) pe_bl rfl))))) pss_nil)))
      (pss_one (ps_ret (pv 1)))), ?_⟩
    refine fun fn nfn dn ndn => ⟨_, _, rfl, ?_⟩
    have nfd : fn ≠ dn := ne_of_none upd_same ndn
    have sm0 : Same H (upd (upd H fn (.dK [])) dn (.dK [])) := (same_upd nfn).trans (same_upd ndn)
    have nd0 : H dn = none := (same_upd nfn).free ndn
    have hSq := sm0.seq hS
    refine ⟨_, rfl, a, l0.map S, rfl, sm0.seq hS, ?_⟩
    intro ys T perm srt nT
    have eys := hsort ys perm srt
    subst eys
    have nTd : T ≠ dn := fun e => by
      rw [e, upd_same] at nT
      cases nT
    have nTf : T ≠ fn := fun e => by
      rw [e, upd_ne nfd, upd_same] at nT
      cases nT
    have sm1 : Same H (upd (upd (upd H fn (.dK [])) dn (.dK [])) T (.lst ((ws.map S).map V.str))) := sm0.trans (same_upd nT)
    have hf1 : (upd (upd (upd H fn (.dK [])) dn (.dK [])) T (.lst ((ws.map S).map V.str))) fn = some (.dK []) := by
      rw [upd_ne nTf.symm, upd_ne nfd, upd_same]
    have hd1 : (upd (upd (upd H fn (.dK [])) dn (.dK [])) T (.lst ((ws.map S).map V.str))) dn = some (.dK []) := by
      rw [upd_ne nTd.symm, upd_same]
    have hT1 : (upd (upd (upd H fn (.dK [])) dn (.dK [])) T (.lst ((ws.map S).map V.str))) T = some (.lst (tx ws)) := upd_same
    generalize (upd (upd (upd H fn (.dK [])) dn (.dK [])) T (.lst ((ws.map S).map V.str))) = H1 at sm1 hf1 hd1 hT1
    refine ⟨T, rfl, ⟨_, .of hT1⟩, ?_⟩
    refine for_it (walk_list (K := K) (xs := tx ws)) (fun i σ H2 => ∃ (m : Nat) (pre L2 : List (W × List W)) (ads : List Addr) (c3 c4 : Option V) (kvs : List (Key × V)), σ = [some (.ref a), some (.ref fn), some (.ref dn), c3, c4] ∧ Lots H H2 fn ads pre ∧ H2 dn = some (.dK kvs) ∧ H2 T = some (.lst (tx ws)) ∧
        Same H H2 ∧ treesB (ws.drop i) m = some L2 ∧ L = pre ++ L2 ∧ Met kvs m ∧ kvs.length ≤ 41 * i ∧ pre.length ≤ i ∧ (∀ p ∈ pre, m.testBit (code p.1) = true) ∧ ∀ (j : Nat) (b : Addr), ads[j]? = some b → b ≠ dn ∧ b ≠ T)
      ⟨0, [], L, [], none, none, [], rfl, ⟨hf1, rfl, fun j b p h1 => by simp at h1⟩, hd1, hT1, sm1, hL, rfl, met_nil, Nat.zero_le _, Nat.zero_le _, fun p hp => by simp at hp, fun j b h1 => by simp at h1⟩ (fun i σ H2 _ ⟨_, _, _, _, _, _, _, _, _, _, hT2, _⟩ => .of hT2) ?_ ?_
    · rintro i x σ H2 H3 hi ⟨m, pre, L2, ads, c3, c4, kvs, rfl, T2, hd, hT2, sm, hB, eL, hM, hk, hp, hpre, hads⟩ ⟨rfl, hx⟩
      rw [tx_len] at hi
      obtain ⟨hi2, rfl⟩ := tx_get hx
      have ed : ws.drop i = ws[i] :: ws.drop (i + 1) := List.drop_eq_getElem_cons hi
      rw [ed] at hB
      have hM1 := hM ws[i]
      refine ⟨.str (S ws[i]), rfl, .ref dn, rfl, dn, _, rfl, DGet.k (k := .inr (S ws[i])) hd, _, rfl, ?_⟩
      rw [hM1]
      rcases trees_step hB with ⟨hb, hB2⟩ | ⟨hb, ts, L3, ht, hB2, rfl⟩
      · rw [hb]
        refine ifF (by decide) ?_
        exact ⟨m, pre, L2, ads, _, c4, kvs, rfl, T2, hd, hT2, sm, hB2, eL, hM, by omega, by omega, hpre, hads⟩
      · rw [hb]
        refine ifT (by decide) ?_
        have tl := turnsOf_len ht
        have hlw := hlen ws[i] (List.getElem_mem hi)
        have hnew : ws[i] ∉ pre.map (·.1) := fun hm => by
          obtain ⟨p, hp1, hp2⟩ := List.mem_map.mp hm
          have := hpre p hp1
          rw [hp2, hb] at this
          cases this
        refine ⟨_, rfl, ws[i], ts, rfl, ht, by omega, fun H4 p sm4 np hp4 => ?_⟩
        have npf : p ≠ fn := fun e => by
          rw [e, T2.at_d] at np
          cases np
        have npd : p ≠ dn := fun e => by
          rw [e, hd] at np
          cases np
        have npT : p ≠ T := fun e => by
          rw [e, hT2] at np
          cases np
        have T4 := T2.keep sm4
        have hd4 : H4 dn = some (.dK kvs) := sm4 dn _ hd
        have hT4 : H4 T = some (.lst (tx ws)) := sm4 T _ hT2
        have sm5 : Same H H4 := sm.trans sm4
        have nk : (lotKv pre ads).length < sizeLine := by
          rw [lotKv_len T2.len, sizeLine_eq]
          omega
        refine ⟨.ref fn, rfl, .str (S ws[i]), rfl, fn, _, rfl, DPut.k (k := .inr (S ws[i])) T4.at_d nk, ?_⟩
        have T5 := T4.more hp4 npf (sm.free np) hnew
        have e5 : putK (lotKv pre ads) (.inr (S ws[i])) (.ref p) = lotKv (pre ++ [(ws[i], ts)]) (ads ++ [p]) := by
          rw [putK_new _ (lotKv_none pre ads ws[i] hnew), lotKv_snoc T2.len]
        have v5 : valV (putK (lotKv pre ads) (.inr (S ws[i])) (.ref p)) (.inr (S ws[i])) = some (.ref p) := by
          rw [valV_put, if_pos rfl]
        have hd5 : (upd H4 fn (.dK (putK (lotKv pre ads) (.inr (S ws[i])) (.ref p)))) dn = some (.dK kvs) := by
          rw [upd_ne nfd.symm]
          exact hd4
        have hT5 : (upd H4 fn (.dK (putK (lotKv pre ads) (.inr (S ws[i])) (.ref p)))) T = some (.lst (tx ws)) := by
          rw [upd_ne nTf]
          exact hT4
        have hp5 : (upd H4 fn (.dK (putK (lotKv pre ads) (.inr (S ws[i])) (.ref p)))) p = some (.lst (tx ts)) := by
          rw [upd_ne npf]
          exact hp4
        have sm6 : Same H (upd H4 fn (.dK (putK (lotKv pre ads) (.inr (S ws[i])) (.ref p)))) := same_upd2 sm5 nfn
        have hf5 : (upd H4 fn (.dK (putK (lotKv pre ads) (.inr (S ws[i])) (.ref p)))) fn = some (.dK (putK (lotKv pre ads) (.inr (S ws[i])) (.ref p))) := upd_same
        have hads5 : ∀ (j : Nat) (b : Addr), (ads ++ [p])[j]? = some b → b ≠ dn ∧ b ≠ T := fun j b hb2 => by
          rcases List.mem_append.mp (List.mem_of_getElem? hb2) with e | e
          · obtain ⟨j2, e2⟩ := List.getElem?_of_mem e
            exact hads j2 b e2
          · rw [List.mem_singleton.mp e]
            exact ⟨npd, npT⟩
        generalize (upd H4 fn (.dK (putK (lotKv pre ads) (.inr (S ws[i])) (.ref p)))) = H5 at T5 hd5 hT5 hp5 sm6 hf5
        have g5 : DGet H5 fn (kV (Sum.inr (S ws[i]))) (some (.ref p)) := by
          have z := DGet.k (k := .inr (S ws[i])) hf5
          rw [v5] at z
          exact z
        refine ⟨.ref fn, rfl, .str (S ws[i]), rfl, fn, _, rfl, g5, ?_⟩
        refine ⟨p, rfl, ⟨_, .of hp5⟩, ?_⟩
        refine for_it (walk_list (K := K) (xs := tx ts)) (fun j σ H6 => ∃ (c4 : Option V) (kv2 : List (Key × V)), σ = [some (.ref a), some (.ref fn), some (.ref dn), some (.str (S ws[i])), c4] ∧ Lots H H6 fn (ads ++ [p]) (pre ++ [(ws[i], ts)]) ∧ H6 dn = some (.dK kv2) ∧ H6 T = some (.lst (tx ws)) ∧ H6 p = some (.lst (tx ts)) ∧
            Same H H6 ∧ Met kv2 (marks m (ts.take j)) ∧ kv2.length ≤ kvs.length + j)
          ⟨c4, kvs, rfl, T5, hd5, hT5, hp5, sm6, hM, by omega⟩ (fun j σ H5 _ ⟨_, _, _, _, _, _, hp5, _⟩ => .of hp5) ?_ ?_
        · rintro j y σ H6 H7 hj ⟨c5, kv2, rfl, T6, hd6, hT6, hp6, sm7, hM6, hk6⟩ ⟨rfl, hy⟩
          obtain ⟨hj2, rfl⟩ := tx_get hy
          have ek : kv2.length < sizeLine := by
            rw [sizeLine_eq]
            omega
          refine ⟨.ref dn, rfl, .str (S ts[j]), rfl, dn, _, rfl, DPut.k (k := .inr (S ts[j])) hd6 ek, ?_⟩
          refine ⟨_, _, rfl, ⟨by rw [upd_ne nfd]; exact T6.at_d, T6.len, fun j2 b q2 h1 h2 => ?_⟩, upd_same, by rw [upd_ne nTd]; exact hT6, by rw [upd_ne npd]; exact hp6, same_upd2 sm7 nd0, ?_, ?_⟩
          · obtain ⟨r1, r2, r3⟩ := T6.row j2 b q2 h1 h2
            exact ⟨r1, r2, by rw [upd_ne (hads5 j2 b h1).1]; exact r3⟩
          · rw [List.take_succ_eq_append_getElem hj2, marks_snoc]
            exact met_put hM6 _ _
          · have := length_putK kv2 (.inr (S ts[j])) (V.bl true)
            omega
        · rintro σ H6 ⟨c5, kv2, rfl, T6, hd6, hT6, hp6, sm7, hM6, hk6⟩
          rw [tx_len] at hM6 hk6
          rw [List.take_length] at hM6
          refine ⟨marks m ts, pre ++ [(ws[i], ts)], L3, ads ++ [p], _, _, kv2, rfl, T6, hd6, hT6, sm7, hB2, by rw [eL]; simp, hM6, by omega, by simp; omega, fun q hq => ?_, hads5⟩
          rw [marks_bit]
          rcases List.mem_append.mp hq with e | e
          · rw [hpre q e]
            rfl
          · rw [List.mem_singleton.mp e]
            obtain ⟨_, _, _, _, rfl⟩ := turnsOf_spec ht
            simp
    · rintro σ H2 ⟨m, pre, L2, ads, c3, c4, kvs, rfl, T2, hd, hT2, sm, hB, eL, hM, hk, hp, hpre, hads⟩
      rw [tx_len, List.drop_eq_nil_of_le (Nat.le_refl _)] at hB
      have e2 : L2 = [] := (Option.some.inj hB).symm
      subst e2
      rw [List.append_nil] at eL
      subst eL
      exact ⟨_, rfl, q H2 fn ads sm nfn T2⟩
end
end K15
namespace K15
open PySem PySem.Spec PyProof.Rows L2
/-! ### a call whose arguments are all named; the law's own call, where it is known which repr runs are on -/
section
variable {X : Cx} {CX : CXT} {k : Nat} {f : Addr} {fd : FuncData} {ps ks : List Str} {sp : Sp} {E : XK} {x : Str} {p pos : Pos} {kws : List Keyword} {tk : TA} {g : List Value → List Value → List Value} {gV : List V → List V → List V}
theorem pe_callK0 (F : FnOk X.prog X.w X.K X.mg X.base CX k f fd ps sp) (hr : Room k X.A) (hg : Gl X x) (hm : X.mg x = some (.ref f)) (hk : PySem.W.keepIn X.K (.ref f) = true) (hb : KBinds X.K fd ps ks g gV) (hx : Passes CX X E)
    (hkw : PK X kws tk) (hall : (backToKw pos (keywordEach kws X.env)).all (·.1.isSome) = true := by rfl) (hks : (backToKw pos (keywordEach kws X.env)).filterMap (·.1) = ks := by rfl)
    (hdb : (x == ("__debug__" : Str)) = false := by decide)
    (hpl : ((backTo pos (starEach [] X.env)).any (·.1) || (backToKw pos (keywordEach kws X.env)).any (·.1.isNone)) = false := by rfl) :
    PE X (.Call (.Name x p) [] kws pos) (tCallK sp gV E tNil tk) := by
  refine ⟨fun pins s σ H Q I h => wpAny_Call_Name_kw (ld_glob I hg hm ?_ hdb)⟩
  refine PySem.W.callWith_KW0 (h₀ := X.base) I.ok.mod.kin hk hall (thn (hkw.run pos pins s σ H _ I h) fun ws s1 ⟨zs, H1, I1, rz, q⟩ => ⟨I1.kIn, ?_⟩) hpl
  rw [hks]
  exact run_fnk (us := []) (vs := []) F hr hb hx I1 .nil rz q
end
section
variable {P : Program} {w : World} {K : PySem.W.Frag} {mg : Str → Option Value} {base : Heap}
/-- a def's call under one A -/
theorem call_under {A : Around} {k : Nat} {outer : List Env} {s : Shared} {H : Hp} {us : List Value} {vs : List V} {Q : VK} {x qual : Str} {st : Stmt} {f : Addr} {fd : FuncData} {N ps : List Str} (F : Fun K x qual st f fd) (S : FnScope N ps (defScope st))
    (hr : Room (k + 1) A) (e0 : Env0 P w K mg base A outer s H) (hb : BindsTo s fd ⟨us, []⟩ (ps.zip us)) (r : Vals vs us) (hl : vs.length = ps.length)
    (body : ∀ cdv : Value, ∃ t, PSs (cxOf CX0 P w K mg base N qual (defScope st) f cdv A outer s H E0).nox (defBody st) t ∧ t { nx := fun _ H' => Q .non H', rt := Q } (start N vs) H) :
    codeAny (model P w) A (.call (.ref f) ⟨us, []⟩) (CR CX0 outer P w H s Q E0) s := by
  obtain ⟨oc, od, kV, doc, pm, an, cdv, ct, osl, rfl, lk, hcd⟩ := F.ex
  obtain ⟨t, ht, hq⟩ := body cdv
  have kp : ∀ b o, base.get? b = some o → s.heap.get? b = some o := fun b o e => (e0.bs b o e).1
  have KX : K.In s.heap := e0.mod.kin.keeps kp
  refine codeAny_call_function hr.depth (KX _ _ lk) rfl S.co S.gen rfl (PySem.W.codeRec_of KX hcd) (hb _ _ _ _ ?_)
  refine wpAny_newFunctionEnv_cells S.kind (fun y hy => ?_) fun env he s1 i1 => ?_
  · have hm : y.1 ∈ ps := (List.of_mem_zip (show (y.1, y.2) ∈ ps.zip us from hy)).1
    exact (S.par y.1 hm).imp id fun q => ⟨q, PySem.W.cellsFrom_some _ _ _ (.inl q)⟩
  · subst he
    refine ⟨(e0.mod.nolimit.keeps kp).keeps i1.toInCall.keep, codeAny_func (wpAny_mono (ht.nox.run [] s1 (start N vs) H _ (inv_start S hr.hd e0 hl r i1) hq) (fun fl s' hs => ?_) fun e s' hs => hs)⟩
    cases fl with
    | ret u =>
      obtain ⟨v, σ', H', J, rv, q⟩ := hs
      exact ⟨v, H', J.os, J.bare, J.base, J.hok, rv, q⟩
    | next =>
      obtain ⟨σ', H', J, q⟩ := hs
      exact ⟨V.non, H', J.os, J.bare, J.base, J.hok, rfl, q⟩
    | brk => exact False.elim (hs.elim fun _ z => z.elim fun _ z => z.2)
    | cont => exact False.elim (hs.elim fun _ z => z.elim fun _ z => z.2)
/-- what a state shows once what H tracks is out of sight -/
theorem hid_env {mb : Str → Option Value} {s : Shared} {H : Hp} (hok : HOk P w H s.heap) (KX : K.In s.heap) (hns : s.heap.Ns mainGlobals mg) (hb : s.heap.Ns builtinsNs mb) (hbb : ∀ x : Str, x ≠ "__name__" → mb x = bootBuiltins x) (hlim : s.heap.NoLimit) (hg : s.gens = #[])
    (nk : ∀ b o, K.lookup b = some o → H b = none) (nd : ∀ b o es ep, s.heap.get? b = some o → o.data = .dict es ep → H b = none) : Env0 P w K mg (hidT s.heap H) callerA [] s H := by
  have ns : ∀ {b : Addr} {m : Str → Option Value}, s.heap.Ns b m → (hidT s.heap H).Ns b m := by
    rintro b m ⟨o, es, ep, e, d, r⟩
    exact ⟨o, es, ep, hidT_get e (nd b o es ep e d), d, r⟩
  obtain ⟨mc, l1, l2⟩ := hlim
  exact { frames := rfl, mod := ⟨fun b o e => hidT_get (KX b o e) (nk b o e), ns hns, ⟨mb, ns hb, hbb⟩, ⟨mc, ns l1, l2⟩⟩, bs := fun b o e => of_hidT e, bsz := Nat.le_of_eq (hidT_size _ _), funs := trivial, frf := fun b z => absurd (show b ∈ ([] : List Addr) from z) (by simp), hok := hok, bare := .of_eq hg }
/-- the heap that the law's own call begins at: the script and nothing else, or (where the script is one of the module's own) nothing -/
theorem begins {a : Addr} {s : Shared} {vs : List Value} {ns : List Int} (KX : K.In s.heap) (ha : s.heap.get? a = some { cls := .type "list", data := .seq vs.toArray }) (hi : IntsAre vs ns) (hl : ns.length ≤ sizeLine) :
    ∃ H : Hp, HOk P w H s.heap ∧ SqL K H a (ns.map V.int) ∧ (∀ b u, H b = some u → b = a ∧ K.lookup a = none ∧ u = .frz { cls := .type "list", data := .seq vs.toArray } (.lst (ns.map V.int))) := by
  have rv := vals_ints hi
  have lv := hi.length
  cases hk : K.lookup a with
  | some o =>
    have e := (ha.symm.trans (KX a o hk))
    cases e
    exact ⟨fun _ => none, (fun b u z => nomatch (z : (none : Option HO) = some u)), .inr ⟨_, vs.toArray, _, hk, rfl, rfl, rfl, by rw [List.size_toArray, lv]; exact hl, by simpa using rv⟩, fun b u z => nomatch (z : (none : Option HO) = some u)⟩
  | none =>
    refine ⟨upd (fun _ => none) a (.frz { cls := .type "list", data := .seq vs.toArray } (.lst (ns.map V.int))), fun b u z => ?_, .inl (.inr ⟨_, upd_same⟩), fun b u z => ?_⟩
    · by_cases hb : b = a
      · subst hb
        rw [upd_same] at z
        cases z
        exact ⟨ha, by rw [List.length_map]; exact hl, vs, _, rv, ha⟩
      · rw [upd_ne hb] at z
        cases z
    · by_cases hb : b = a
      · subst hb
        rw [upd_same] at z
        cases z
        exact ⟨rfl, rfl, rfl⟩
      · rw [upd_ne hb] at z
        cases z
/-- the law's call from its promise at callerA -/
theorem law_at {mb : Str → Option Value} {fa a : Addr} {s : Shared} {vs : List Value} {ns : List Int} (KX : K.In s.heap) (hns : s.heap.Ns mainGlobals mg) (hb : s.heap.Ns builtinsNs mb) (hbb : ∀ x : Str, x ≠ "__name__" → mb x = bootBuiltins x) (hlim : s.heap.NoLimit) (hg : s.gens = #[])
    (ha : s.heap.get? a = some { cls := .type "list", data := .seq vs.toArray }) (hi : IntsAre vs ns) (hl : ns.length ≤ sizeLine)
    (F : ∀ (base : Heap) (H : Hp), Env0 P w K mg base callerA [] s H → SqL K H a (ns.map V.int) → codeAny (model P w) callerA (.call (.ref fa) ⟨[.ref a], []⟩) (CR CX0 [] P w H s (fun v _ => v = .bl true) E0) s) :
    codeAny (model P w) callerA (.call (.ref fa) ⟨[.ref a], []⟩) (fun r s' => r = .ok (.ret (.bool true)) ∧ OldK s.heap s'.heap ∧ s'.os = s.os ∧ AllBare s'.gens) s := by
  obtain ⟨H, hok, hS, hH⟩ := begins (P := P) (w := w) KX ha hi hl
  have e0 : Env0 P w K mg (hidT s.heap H) callerA [] s H := hid_env hok KX hns hb hbb hlim hg (fun b o e => by
      cases q : H b with
      | none => rfl
      | some u =>
        obtain ⟨rfl, e2, _⟩ := hH b u q
        exact nomatch (e2.symm.trans e)) fun b o es ep e d => by
      cases q : H b with
      | none => rfl
      | some u =>
        obtain ⟨rfl, _, _⟩ := hH b u q
        have e3 := ha.symm.trans e
        cases e3
        exact nomatch (d : Data.seq vs.toArray _ = Data.dict es ep)
  refine codeAny_mono (F _ H e0 hS) fun r s' h => ?_
  match r, h with
  | .error e, h => exact False.elim h
  | .ok .next, h => exact False.elim h
  | .ok .brk, h => exact False.elim h
  | .ok .cont, h => exact False.elim h
  | .ok (.ret u), ⟨v, H', os, bare, un, hok', rv, q⟩ =>
    have q2 : v = .bl true := q
    subst q2
    obtain rfl : u = Value.bool true := rv
    refine ⟨rfl, OldK.of_keep fun b o e => ?_, os, bare⟩
    cases z : H b with
    | none => exact un.keep b o e z (fun y => absurd (show b ∈ ([] : List Addr) from y) (by simp)) (by simp)
    | some u =>
      obtain ⟨rfl, _, rfl⟩ := hH b u z
      have e1 := (hok b _ z).1
      have e2 := (hok' b _ (un.frzs b _ _ z)).1
      rw [← e, e1]
      exact e2
end
/-- the goal that k_head leaves, from the law's promise at callerA -/
theorem walk_at {l : PySem.W.OpenLaw} {n : Nat} {q : Program} {loose : List Str} {XP : (Str → Option Value) → Heap → Prop} {YP : World → Heap → Prop} {d : DefRec} {K : Params → PySem.W.Frag} (hn : l.most = some n) (hn2 : n ≤ sizeLine) (hdf : d.params.defaults = [])
    (hY : ∀ (w : World) (h : Heap), YP w h → (K w.params).In h)
    (F : ∀ (w : World) (mg : Str → Option Value) (fa : Addr) (h base : Heap) (s : Shared) (H : Hp) (a : Addr) (ns : List Int), (K w.params).In h → h.Ns mainGlobals mg → mg d.name = some (.ref fa) → ns.length ≤ n → Env0 l.prog w (K w.params) mg base callerA [] s H → SqL (K w.params) H a (ns.map V.int) →
      codeAny (model l.prog w) callerA (.call (.ref fa) ⟨[.ref a], []⟩) (CR CX0 [] l.prog w H s (fun v _ => v = .bl true) E0) s) :
    PySem.W.WalkO q loose XP YP l.row.toRowW d [] (fun f vs => PySem.call f vs) :=
  Att.attach_call hn hdf fun w s0 s1 mg mb fa o pm cd doc a vs ns G Y ho hd hcd hmg hobj hints hlen hg =>
    law_at (hY w _ Y) G.T.g G.T.b G.T.builtins G.T.nolimit hg hobj hints (Nat.le_trans hlen hn2) fun base H e0 hS => F w mg fa _ base s1 H a ns (hY w _ Y) G.T.g hmg hlen e0 hS
end K15
namespace K15
open PySem PySem.Spec PyProof.Rows L2
/-! ### plain facts of texts and lots -/
theorem rising_mem : ∀ (l : List Str) (p : Str), risingS p l = true → ∀ z ∈ l, ¬ cpl z < cpl p
  | [], _, _, _, h => absurd h (by simp)
  | x :: r, p, h, z, hz => by
    have h0 : (!ltCps x.cps.toList p.cps.toList && risingS x r) = true := h
    rw [Bool.and_eq_true, ltCps_eq] at h0
    have h1 : ¬ cpl x < cpl p := by simpa using h0.1
    rcases List.mem_cons.mp hz with e | e
    · rw [e]
      exact h1
    · intro c
      have h2 := rising_mem r x h0.2 z e
      exact h1 (List.lt_of_le_of_lt (List.not_lt.mp h2) c)
theorem sorted_tail {y : Str} {l : List Str} (h : sortedS (y :: l) = true) : sortedS l = true := by
  cases l with
  | nil => rfl
  | cons x r =>
    have h0 : (!ltCps x.cps.toList y.cps.toList && risingS x r) = true := h
    exact (Bool.and_eq_true_iff.mp h0).2
/-- one way alone to sort them -/
theorem sorted_one : ∀ (ws : List W) (ys : List Str), ys.Perm (ws.map S) → upB ws = true → sortedS ys = true → ys = ws.map S
  | [], ys, h, _, _ => List.Perm.eq_nil h
  | w :: r, [], h, _, _ => absurd h.length_eq (by simp)
  | w :: r, y :: ys, h, hu, hs => by
    have hp := List.pairwise_cons.mp (up_pair _ hu)
    have hy : y ∈ (w :: r).map S := h.mem_iff.mp List.mem_cons_self
    obtain ⟨v, hv, rfl⟩ := List.mem_map.mp hy
    have e : v = w := by
      rcases List.mem_cons.mp hv with e | e
      · exact e
      · exfalso
        have l1 := hp.1 v e
        have hw : S w ∈ S v :: ys := h.mem_iff.mpr (List.mem_map.mpr ⟨w, List.mem_cons_self, rfl⟩)
        rcases List.mem_cons.mp hw with e2 | e2
        · rw [S_inj e2, ltW_irrefl] at l1
          cases l1
        · exact rising_mem ys (S v) hs (S w) e2 ((S_lt w v).mpr l1)
    subst e
    have hu2 : upB r = true := by
      cases r with
      | nil => rfl
      | cons b r => exact (Bool.and_eq_true_iff.mp hu).2
    rw [List.map_cons] at h ⊢
    rw [sorted_one r ys h.cons_inv hu2 (sorted_tail hs)]
theorem lotKv_keys : ∀ (L : List (W × List W)) (ads : List Addr), ads.length = L.length → (lotKv L ads).map (·.1) = ((L.map (·.1)).map S).map Sum.inr
  | [], [], _ => rfl
  | p :: L, a :: ads, h => by
    have ih := lotKv_keys L ads (by simpa using h)
    show Sum.inr (S p.1) :: (lotKv L ads).map (·.1) = _
    rw [ih] <;> rfl
  | [], _ :: _, h => absurd h (by simp)
  | _ :: _, [], h => absurd h (by simp)
theorem lotKv_get : ∀ (L : List (W × List W)) (ads : List Addr), (L.map (·.1)).Nodup → ∀ (j : Nat) (p : W × List W) (a : Addr), L[j]? = some p → ads[j]? = some a → valV (lotKv L ads) (.inr (S p.1)) = some (.ref a)
  | [], _, _, j, p, a, h, _ => by simp at h
  | _ :: _, [], _, j, p, a, _, h => by simp at h
  | q :: L, b :: ads, nd, 0, p, a, h1, h2 => by
    have e1 : q = p := by simpa using h1
    have e2 : b = a := by simpa using h2
    subst e1
    subst e2
    exact valV_pos rfl
  | q :: L, b :: ads, nd, j + 1, p, a, h1, h2 => by
    rw [List.map_cons, List.nodup_cons] at nd
    have h1' : L[j]? = some p := by simpa using h1
    have h2' : ads[j]? = some a := by simpa using h2
    have ne : ¬ ((Sum.inr (S q.1) : Key) = Sum.inr (S p.1)) := fun e => nd.1 (by
      rw [S_inj (Sum.inr.inj e)]
      exact List.mem_map.mpr ⟨p, List.mem_of_getElem? h1', rfl⟩)
    exact (valV_neg ne).trans (lotKv_get L ads nd.2 j p a h1' h2')
theorem lotKv_at {L : List (W × List W)} {ads : List Addr} (hl : ads.length = L.length) {i : Nat} {k : Key} {v : V} (h : (lotKv L ads)[i]? = some (k, v)) : ∃ p a, L[i]? = some p ∧ ads[i]? = some a ∧ k = .inr (S p.1) ∧ v = .ref a := by
  have hi : i < L.length := by
    rw [← lotKv_len hl]
    exact (List.getElem?_eq_some_iff.mp h).1
  have ha : i < ads.length := by omega
  refine ⟨L[i], ads[i], List.getElem?_eq_getElem hi, List.getElem?_eq_getElem ha, ?_⟩
  unfold lotKv at h
  rw [List.getElem?_zipWith, List.getElem?_eq_getElem hi, List.getElem?_eq_getElem ha] at h
  have e := Option.some.inj h
  exact ⟨(congrArg Prod.fst e).symm, (congrArg Prod.snd e).symm⟩
theorem sum_lens : ∀ L : List (W × List W), (L.map fun p => ((p.2.length : Nat) : Int)).sum = ((sumLen L : Nat) : Int)
  | [] => rfl
  | p :: L => by
    rw [List.map_cons, List.sum_cons, sum_lens L, sumLen]
    omega
theorem fmt_small : ∀ (l : List W) (m : Nat), (∀ x ∈ l, x.length ≤ m) → fmtCost (l.map S) ≤ l.length * (10 * m + 4)
  | [], _, _ => Nat.zero_le _
  | x :: l, m, h => by
    have ih := fmt_small l m fun y hy => h y (List.mem_cons_of_mem _ hy)
    have hx := h x List.mem_cons_self
    rw [List.map_cons, fmtCost_cons, S_len, List.length_cons, Nat.add_mul]
    omega
theorem S_code {l : List W} : ∀ y ∈ l.map S, ∀ c ∈ y.cps.toList, c < 16 ^ 8 := fun y hy c hc => by
  obtain ⟨x, _, rfl⟩ := List.mem_map.mp hy
  rw [S_cps] at hc
  obtain ⟨b, _, rfl⟩ := List.mem_map.mp hc
  cases b <;> decide
def tdata (l : List W) : PyData := .list ((l.map S).map PyData.str)
theorem lay_tx : ∀ l : List W, PyData.canLayAll0 ((l.map S).map PyData.str) = true
  | [] => rfl
  | x :: l => by
    have h1 : PyData.strOk (S x) = true := by
      unfold PyData.strOk
      rw [Array.all_eq_true_iff_forall_mem]
      intro c hc
      have hc2 : c ∈ (S x).cps.toList := Array.mem_toList_iff.mpr hc
      rw [S_cps] at hc2
      obtain ⟨b, _, rfl⟩ := List.mem_map.mp hc2
      cases b <;> decide
    show (PyData.strOk (S x) && PyData.canLayAll0 ((l.map S).map PyData.str)) = true
    rw [h1, lay_tx l] <;> rfl
theorem shaped_tx (l : List W) : SeqAt.shaped (tdata l) = true := by
  unfold SeqAt.shaped
  have h1 : PyData.canLay0 (tdata l) = true := lay_tx l
  have h2 : ∀ cs : List Str, PyData.depthAll (cs.map PyData.str) = 0 := fun cs => by
    induction cs with
    | nil => rfl
    | cons x r ih =>
      show max 0 (PyData.depthAll (r.map PyData.str)) = 0
      rw [ih] <;> rfl
  have h3 : PyData.depth (tdata l) = 1 := by
    show PyData.depthAll ((l.map S).map PyData.str) + 1 = 1
    rw [h2]
  rw [h1, h3] <;> rfl
theorem dp_strs {K : PySem.W.Frag} {H : Hp} : ∀ l : List Str, DpAll K H (l.map V.str) (l.map PyData.str)
  | [] => .nil
  | x :: r => .cons (.str x) (dp_strs r)
theorem eqv_tx (l : List W) : PyData.eqv (tdata l) (tdata l) = true := SeqAt.eqv_refl _ (lay_tx l)
/-! ### what the kernel's reckonings say -/
structure Facts (n : Nat) (ws : List W) (L : List (W × List W)) : Prop where
  words : wordsO 500 (tens n) = some ws
  trees : treesB ws 0 = some L
  perm : ws.Perm (lawAll n)
  upW : upB ws = true
  upL : upB (L.map (·.1)) = true
  sum : sumLen L = (lawAll n).length
  many : treesV n = (L.length : Int)
  l60 : L.length ≤ 60
  l1 : 1 ≤ L.length
  lens : ∀ x ∈ ws, x.length ≤ 20
  few : (lawAll n).length ≤ 500
  row : ∀ p ∈ L, p.1.length ≤ 20 ∧ turnsOf p.1 = some p.2 ∧ p.1 ∈ p.2 ∧ leastB p.1 p.2 = true ∧ ∀ u ∈ p.2, isW u = true ∧ ∃ ts, turnsOf u = some ts ∧ p.1 ∈ ts ∧ leastB p.1 ts = true
theorem mem_turns {u : W} {ts : List W} (h : turnsOf u = some ts) : u ∈ ts := by
  obtain ⟨_, _, _, _, rfl⟩ := turnsOf_spec h
  exact List.mem_cons_self
theorem facts_of (hs : smallTab 7 = true) {n : Nat} (hn : n ≤ 7) (h : good7 n = true) : ∃ ws L, Facts n ws L := by
  unfold good7 at h
  split at h
  · cases h
  · rename_i ws hw
    split at h
    · cases h
    · rename_i L hL
      unfold goodL at h
      simp only [Bool.and_eq_true] at h
      obtain ⟨⟨⟨⟨⟨⟨⟨a1, a2⟩, a3⟩, a4⟩, a5⟩, a6⟩, a7⟩, a8⟩ := h
      have pm := sorted_perm a1
      have hr : lawAll n ∈ tabOf n := by
        have e : lawAll n = (tabOf n)[n]'(by rw [tabOf_len]; omega) := by
          unfold lawAll
          rw [List.getD_eq_getElem?_getD, List.getElem?_eq_getElem (by rw [tabOf_len]; omega)] <;> rfl
        rw [e]
        exact List.getElem_mem _
      have sm := tab_small hs hn hr
      have lens : ∀ x ∈ ws, x.length ≤ 20 := fun x hx => sm.2 x (pm.mem_iff.mp hx)
      refine ⟨ws, L, ⟨hw, hL, pm, a2, a3, Nat.eq_of_beq_eq_true a4, of_decide_eq_true a5, Nat.le_of_ble_eq_true a6, Nat.le_of_ble_eq_true a7, lens, sm.1, fun p hp => ?_⟩⟩
      obtain ⟨m1, m2⟩ := treesB_mem ws 0 L hL p hp
      have b := List.all_eq_true.mp a8 p hp
      rw [Bool.and_eq_true] at b
      refine ⟨lens _ m1, m2, mem_turns m2, b.1, fun u hu => ?_⟩
      have c := List.all_eq_true.mp b.2 u hu
      rw [Bool.and_eq_true] at c
      refine ⟨c.1, ?_⟩
      have c2 := c.2
      split at c2
      · cases c2
      · rename_i ts ht
        rw [Bool.and_eq_true] at c2
        obtain ⟨y, hy, e⟩ := List.any_eq_true.mp c2.1
        exact ⟨ts, ht, by rw [(eqW_iff _ _).mp e]; exact hy, c2.2⟩
structure Facts9 (fu k : Nat) (ws : List W) (L : List (W × List W)) : Prop where
  words : wordsO fu (tens k) = some ws
  trees : treesB ws 0 = some L
  upL : upB (L.map (·.1)) = true
  sum : sumLen L = 4862
  l300 : L.length ≤ 300
  l41 : 41 ≤ L.length
  lens : ∀ x ∈ ws, x.length ≤ 100
  row : ∀ p ∈ L, p.1.length ≤ 100 ∧ turnsOf p.1 = some p.2 ∧ p.1 ∈ p.2
  least : ∀ p ∈ L.take 40, leastB p.1 p.2 = true
theorem facts9_of {fu k : Nat} (h : good9g fu k = true) : ∃ ws L, Facts9 fu k ws L := by
  unfold good9g at h
  split at h
  · cases h
  · rename_i ws hw
    split at h
    · cases h
    · rename_i L hL
      simp only [Bool.and_eq_true] at h
      obtain ⟨⟨⟨⟨⟨a1, a2⟩, a3⟩, a4⟩, a5⟩, a6⟩ := h
      have lens : ∀ x ∈ ws, x.length ≤ 100 := fun x hx => Nat.le_of_ble_eq_true (List.all_eq_true.mp a5 x hx)
      exact ⟨ws, L, ⟨hw, hL, a1, Nat.eq_of_beq_eq_true a2, Nat.le_of_ble_eq_true a3, Nat.le_of_ble_eq_true a4, lens, fun p hp => ⟨lens _ (treesB_mem ws 0 L hL p hp).1, (treesB_mem ws 0 L hL p hp).2, mem_turns (treesB_mem ws 0 L hL p hp).2⟩, fun p hp => List.all_eq_true.mp a6 p hp⟩⟩
end K15
namespace K15
open PySem PySem.Spec PyProof.Rows L2
/-! ### the law -/
abbrev NLaw : List Str := ["_law_script", "_law_grove_here", "_law_pairs", "_law_words", "_law_lots_here", "_law_name", "_law_lap", "_law_told"]
theorem scLaw : FnScope NLaw ["_law_script"] (defScope sLaw) := ⟨rfl, rfl, rfl, by decide +kernel, rfl, by decide +kernel, by decide +kernel⟩
def rLen (K : PySem.W.Frag) : List V → Hp → VK → Prop := fun xs H Q => ∃ (p : Addr) (ys : List V), xs = [.ref p] ∧ (SqL K H p ys ∨ SqT K H p ys) ∧ Q (.int ys.length) H
theorem cr_len {X : Cx} : CallR X (.builtin "len") (rLen X.K) := call_len_seq
abbrev nms (L : List (W × List W)) : List W := L.map (·.1)
def gCat {α : Type} (us ws : List α) : List α := us ++ ws
theorem sameX_new {g p : Addr} {H H1 : Hp} {o : HO} (s : SameX g H H1) (h : H p = none) : SameX g H (upd H1 p o) := fun b x n e => by
  rw [upd_ne (ne_of_none e h)]
  exact s b x n e
theorem sameX_back {d : Addr} {u : HO} {H H1 : Hp} (s : SameX d H H1) (h : H d = some u) : Same H (upd H1 d u) := fun b x e => by
  by_cases hb : b = d
  · rw [hb, upd_same, ← h, ← e, hb]
  · rw [upd_ne hb]
    exact s b x hb e
section
variable {P : Program} {w : World} {K : PySem.W.Frag} {mg : Str → Option Value} {base : Heap}
theorem law_body {f f1 f2 f3 f4 f5 f6 f7 f8 f9 : Addr} {fd1 fd2 fd3 fd4 fd5 fd6 fd7 fd8 fd9 : FuncData} {cdv : Value} {s : Shared} {H : Hp} {a : Addr} {ns : List Int} (B : Bl mg)
    (D1 : Df K mg "_law_grove" sGrove f1 fd1 ["_law_script"]) (G1 : FnOk P w K mg base CX0 1 f1 fd1 ["_law_script"] (spGrove K))
    (D2 : Df K mg "_law_one_of" sOneOf f2 fd2 ["_law_grove_here", "_law_some"]) (G2 : FnOk P w K mg base CX0 2 f2 fd2 ["_law_grove_here", "_law_some"] (spOneOf K))
    (D3 : Df K mg "_law_all" sLAll f3 fd3 ["_law_pairs"]) (G3 : FnOk P w K mg base CX0 1 f3 fd3 ["_law_pairs"] spLAll)
    (D4 : Df K mg "_law_lots" sLLots f4 fd4 ["_law_words"]) (G4 : FnOk P w K mg base CX0 3 f4 fd4 ["_law_words"] (spLLots K))
    (D5 : Df K mg "all_trees" sAllTrees f5 fd5 ["pairs"]) (G5 : FnOk P w K mg base CX0 5 f5 fd5 ["pairs"] spAllTrees) (b5 : KBinds K fd5 ["pairs"] ["pairs"] gCat gCat)
    (D6 : Df K mg "how_many_trees" sHow f6 fd6 ["pairs"]) (G6 : FnOk P w K mg base CX0 5 f6 fd6 ["pairs"] spHow)
    (D7 : Df K mg "name_of" sNameOf f7 fd7 ["word"]) (G7 : FnOk P w K mg base CX0 5 f7 fd7 ["word"] spNameOf)
    (D8 : Df K mg "_law_fell" sFell f8 fd8 ["_law_grove_here", "_law_many"]) (G8 : FnOk P w K mg base CX0 1 f8 fd8 ["_law_grove_here", "_law_many"] spFell)
    (D9 : Df K mg "_law_turns" sLTurns f9 fd9 ["_law_word"]) (G9 : FnOk P w K mg base CX0 2 f9 fd9 ["_law_word"] spTurns)
    (hs : smallTab 7 = true) (h7 : ∀ n, 1 ≤ n → n ≤ 7 → good7 n = true) (h9 : good9 = true) (hS : SqL K H a (ns.map V.int)) (hlen : ns.length ≤ 63) :
    ∃ t, PSs (cxOf CX0 P w K mg base NLaw "law" (defScope sLaw) f cdv callerA [] s H E0).nox (defBody sLaw) t ∧ t { nx := fun _ H' => (fun v _ => v = V.bl true : VK) .non H', rt := fun v _ => v = .bl true } (start NLaw [.ref a]) H := by
  have nd := scLaw.nd
  have hr0 : Room 6 callerA := ⟨rfl, by decide, by decide⟩
  have hr : Room 5 (callerA.deeper (envOfC "law" (defScope sLaw) s.heap.objs.size f cdv)) := hr0.deeper _
  have hr1 : Room 1 _ := hr.mono (by decide)
  have hr2 : Room 2 _ := hr.mono (by decide)
  have hr3 : Room 3 _ := hr.mono (by decide)
  have hu := hu_of hr
  have hg : (callerA.deeper (envOfC "law" (defScope sLaw) s.heap.objs.size f cdv)).guards = some [] := rfl
  refine ⟨_, pss_cons (ps_set (i := 1) nd rfl (Or.inl rfl) (pe_call G1 hr1 (by rfl) D1.gl D1.fn.kp D1.bd .nil pass0 (pa_cons (pv 0) pa_nil)))
    (pss_cons (ps_set (i := 2) nd rfl (Or.inl rfl) (pe_call G2 hr2 (by rfl) D2.gl D2.fn.kp D2.bd .nil pass0 (pa_cons (pv 1) (pa_cons (pe_lst (pa_cons pe_int (pa_cons pe_int (pa_cons pe_int (pa_cons pe_int (pa_cons pe_int (pa_cons pe_int (pa_cons pe_int (pa_cons pe_int pa_nil))))))))) pa_nil))))
    (pss_cons (ps_set (i := 3) nd rfl (Or.inl rfl) (pe_call G3 hr1 (by rfl) D3.gl D3.fn.kp D3.bd .nil pass0 (pa_cons (pv 2) pa_nil)))
    (pss_cons (ps_set (i := 4) nd rfl (Or.inr rfl) (pe_call G4 hr3 (by rfl) D4.gl D4.fn.kp D4.bd .nil pass0 (pa_cons (pv 3) pa_nil)))
    (pss_cons (ps_if (PW.pt (pw_or
        (pt_cmpR op_ne (pe_callB (call_reprTwo hg hr.units) (by rfl) B.rep (by decide +kernel) (pa_cons (pe_lst (pa_cons (pe_call G5 hr (by rfl) D5.gl D5.fn.kp D5.bd .nil pass0 (pa_cons (pv 2) pa_nil)) (pa_cons (pe_callK0 G5 hr (by rfl) D5.gl D5.fn.kp b5 pass0 (pk_cons (pv 2) pk_nil)) pa_nil))) pa_nil))
          (pe_callB (call_reprTwo hg hr.units) (by rfl) B.rep (by decide +kernel) (pa_cons (pe_op op_rep (pe_lst (pa_cons (pe_callTy call_tuple_of (by rfl) B.tup (by decide +kernel) (pa_cons (pe_callB (call_sortedD rfl) (by rfl) B.sor (by decide +kernel) (pa_cons (pv 4) pa_nil)) pa_nil)) pa_nil)) pe_int) pa_nil)) (nomark _))
        (pw_or1 (pt_cmpR op_ne (pe_callB SkE.call_repr_int (by rfl) B.rep (by decide +kernel) (pa_cons (pe_call G6 hr (by rfl) D6.gl D6.fn.kp D6.bd .nil pass0 (pa_cons (pv 2) pa_nil)) pa_nil))
          (pe_callB SkE.call_repr_int (by rfl) B.rep (by decide +kernel) (pa_cons (pe_callB call_lenD (by rfl) B.len PySem.boot_len (pa_cons (pv 4) pa_nil)) pa_nil)) (nomark _))))) (pss_one (ps_ret pe_bl)) pss_nil)
    (pss_cons (ps_if (PW.pt (pw_or
        (pt_cmpR op_ne (pe_callB (cr_sum rfl) (by rfl) B.sum (by decide +kernel) (pa_cons (pe_lock
            (pe_lc (own := [("_law_name", 5)]) (g := gName 5) (tt := tYes) (by rfl) nd (pi_keys (pv 4)) (blkOk_by (own := [("_law_name", 5)]) (N := NLaw) (sc := defScope sLaw) (by decide +kernel))
              (fun _ _ _ _ _ => pg_name (i := 5) nd rfl (Or.inl rfl)) (fun _ _ _ _ _ => pts_nil)
              (fun _ _ _ _ _ => pe_callB (id := "len") (r := rLen K) cr_len (by rfl) B.len PySem.boot_len (pa_cons (pe_dget hu (pv 4) (pv 5) (fun _ _ => rfl)) pa_nil)))) pa_nil))
          (pe_callB (id := "len") (r := rLen K) cr_len (by rfl) B.len PySem.boot_len (pa_cons (pv 3) pa_nil)) (nomark _))
        (pw_or1 (pt_cmpR (op_neD hr.units) (pe_lock
            (pe_lc (own := [("_law_name", 5)]) (g := gName 5) (by rfl) nd (pi_keys (pv 4)) (blkOk_by (own := [("_law_name", 5)]) (N := NLaw) (sc := defScope sLaw) (by decide +kernel))
              (fun _ _ _ _ _ => pg_name (i := 5) nd rfl (Or.inl rfl))
              (fun _ _ _ _ _ => pts_one (pt_cmpR op_ne (pe_callB (id := "min") (r := rLeastS K) (cr_leastS rfl) (by rfl) B.min (by decide +kernel) (pa_cons (pe_dget hu (pv 4) (pv 5) (fun _ _ => rfl)) pa_nil)) (pv 5) (nomark _)))
              (fun _ _ _ _ _ => pv 5))) (pe_lst pa_nil) (nomark _))))) (pss_one (ps_ret pe_bl)) pss_nil)
    (pss_cons (ps_for PassesOwn.never rfl (pi_range1 (by rfl) B.rng (pa_cons pe_int pa_nil)) (pg_name (i := 6) nd rfl (Or.inl rfl))
      (pss_cons (ps_set (i := 5) nd rfl (Or.inl rfl) (pe_call G2 hr2 (by rfl) D2.gl D2.fn.kp D2.bd .nil pass0 (pa_cons (pv 1) (pa_cons (pe_callB (call_sortedD rfl) (by rfl) B.sor (by decide +kernel) (pa_cons (pv 4) pa_nil)) pa_nil))))
      (pss_one (ps_if (pt_cmpR op_ne (pe_call G7 hr (by rfl) D7.gl D7.fn.kp D7.bd .nil pass0 (pa_cons (pe_call G2 hr2 (by rfl) D2.gl D2.fn.kp D2.bd .nil pass0 (pa_cons (pv 1) (pa_cons (pe_dget hu (pv 4) (pv 5) (fun _ _ => rfl)) pa_nil))) pa_nil)) (pv 5) (nomark _)) (pss_one (ps_ret pe_bl)) pss_nil))))
    (pss_cons (ps_if (pt_cmpR op_ne (pe_call G8 hr1 (by rfl) D8.gl D8.fn.kp D8.bd .nil pass0 (pa_cons (pv 1) (pa_cons pe_int pa_nil))) pe_int (nomark _)) (pss_one (ps_ret pe_bl)) pss_nil)
    (pss_cons (ps_set (i := 7) nd rfl (Or.inl rfl) (pe_call G5 hr (by rfl) D5.gl D5.fn.kp D5.bd .nil pass0 (pa_cons pe_int pa_nil)))
    (pss_one (ps_ret (pe_and (pe_cmpR (op_eqD hr.units) (pe_callTy call_list_of (by rfl) B.lst (by decide +kernel) (pa_cons (pv 7) pa_nil)) (pe_callB (cr_sortSetTx rfl) (by rfl) B.sor (by decide +kernel) (pa_cons (pe_callTy (cr_setTup rfl) (by rfl) B.set (by decide +kernel) (pa_cons (pv 7) pa_nil)) pa_nil)) (nomark _))
      (pe_and (pe_cmpR op_eq (pe_callB (cr_sum rfl) (by rfl) B.sum (by decide +kernel) (pa_cons
            (pe_lc (own := [("_law_name", 5)]) (g := gName 5) (tt := tYes) (by rfl) nd (pi_tup (pv 7)) (blkOk_by (own := [("_law_name", 5)]) (N := NLaw) (sc := defScope sLaw) (by decide +kernel))
              (fun _ _ _ _ _ => pg_name (i := 5) nd rfl (Or.inl rfl)) (fun _ _ _ _ _ => pts_nil)
              (fun _ _ _ _ _ => pe_callB (id := "len") (r := rLen K) cr_len (by rfl) B.len PySem.boot_len (pa_cons (pe_call G9 hr2 (by rfl) D9.gl D9.fn.kp D9.bd .nil pass0 (pa_cons (pv 5) pa_nil)) pa_nil))) pa_nil)) pe_int (nomark _))
      (pe_one (pe_cmpR (op_eqD hr.units)
            (pe_lc (own := [("_law_name", 5)]) (g := gName 5) (by rfl) nd (pi_tup (pe_slice sl_tup (pv 7) po_none (po_some pe_int))) (blkOk_by (own := [("_law_name", 5)]) (N := NLaw) (sc := defScope sLaw) (by decide +kernel))
              (fun _ _ _ _ _ => pg_name (i := 5) nd rfl (Or.inl rfl))
              (fun _ _ _ _ _ => pts_one (pt_cmpR op_ne (pe_callB (id := "min") (r := rLeastS K) (cr_leastS rfl) (by rfl) B.min (by decide +kernel) (pa_cons (pe_call G9 hr2 (by rfl) D9.gl D9.fn.kp D9.bd .nil pass0 (pa_cons (pv 5) pa_nil)) pa_nil)) (pv 5) (nomark _)))
              (fun _ _ _ _ _ => pv 5)) (pe_lst pa_nil) (nomark _))))))))))))))), ?_⟩
  have hz2 : (2 : Nat) ≤ sizeLine := by decide
  have fit : ∀ {L : List (W × List W)} {n : Nat} {ws : List W}, Facts n ws L → fmtCost ((nms L).map S) + fmtCost ((nms L).map S) + 100 ≤ sizeLine := fun {L n ws} Fa => by
    have q := fmt_small (nms L) 20 fun x hx => by
      obtain ⟨p, hp, rfl⟩ := List.mem_map.mp hx
      exact (Fa.row p hp).1
    rw [List.length_map] at q
    have := Fa.l60
    have z : L.length * (10 * 20 + 4) ≤ 60 * 204 := Nat.mul_le_mul this (by decide)
    rw [sizeLine_eq]
    omega
  refine ⟨.ref a, rfl, a, ns, rfl, hS, hlen, fun H1 g c cells sm1 ng nc Gr1 hcl => ?_⟩
  refine ⟨.ref g, rfl, (by show 8 ≤ sizeLine; decide), fun pl npl => ?_⟩
  have npg : pl ≠ g := fun e => by
    rw [e, Gr1.at_g] at npl
    cases npl
  refine ⟨g, c, pl, cells, 0, 0, _, rfl, Gr1.keep (same_upd npl), by decide, hcl, .of upd_same, npg, by decide, by decide, fun H2 r t1 l1 x sx2 Gr2 ht1 hx => ?_⟩
  obtain ⟨n, rfl, n1, n7⟩ : ∃ n : Nat, x = .int n ∧ 1 ≤ n ∧ n ≤ 7 := by
    have hm := List.mem_of_getElem? hx
    simp only [List.mem_cons, List.not_mem_nil, or_false] at hm
    rcases hm with e | e | e | e | e | e | e | e
    · exact ⟨4, e, by decide, by decide⟩
    · exact ⟨5, e, by decide, by decide⟩
    · exact ⟨3, e, by decide, by decide⟩
    · exact ⟨6, e, by decide, by decide⟩
    · exact ⟨2, e, by decide, by decide⟩
    · exact ⟨1, e, by decide, by decide⟩
    · exact ⟨5, e, by decide, by decide⟩
    · exact ⟨7, e, by decide, by decide⟩
  obtain ⟨ws, L, Fa⟩ := facts_of hs n7 (h7 n n1 n7)
  refine ⟨.int n, rfl, n, rfl, n1, n7, fun H3 wl sm3 nwl hwl => ?_⟩
  have wl5 : ws.length ≤ 500 := by
    rw [Fa.perm.length_eq]
    exact Fa.few
  have l100 : ∀ x ∈ ws, x.length ≤ 100 := fun x hx => Nat.le_trans (Fa.lens x hx) (by decide)
  refine ⟨.ref wl, rfl, wl, lawAll n, ws, L, rfl, .of hwl, fun ys pm srt => sorted_one ws ys (pm.trans (Fa.perm.map S).symm) Fa.upW srt, Fa.trees, by omega, l100, fun H4 d ads sm4 nd4 T4 => ?_⟩
  have Gr4 := (Gr2.keep sm3).keep sm4
  have ndg : d ≠ g := fun e => by
    rw [e, (Gr2.keep sm3).at_g] at nd4
    cases nd4
  have nag : ∀ (j : Nat) (b : Addr), ads[j]? = some b → b ≠ g := fun j b hj e => by
    have hjl : j < L.length := by
      rw [← T4.len]
      exact (List.getElem?_eq_some_iff.mp hj).1
    have z := (T4.row j b L[j] hj (List.getElem?_eq_getElem hjl)).2.1
    rw [e, (Gr2.keep sm3).at_g] at z
    cases z
  have hw4 : H4 wl = some (.lst (tx (lawAll n))) := sm4 _ _ hwl
  have upn : ((nms L).map S).length < 64 := by
    rw [List.length_map, List.length_map]
    have := Fa.l60
    omega
  have sort_names : ∀ ys : List Str, ys.Perm ((nms L).map S) → sortedS ys = true → ys = (nms L).map S := fun ys pm srt => sorted_one _ ys pm Fa.upL srt
  -- the first if
  refine ⟨.int n, rfl, n, 500, ws, L, rfl, n1, by omega, Fa.words, by decide, l100, Fa.trees, fun H5 p1 sm5 np1 hp1 => ?_⟩
  refine ⟨.int n, rfl, n, 500, ws, L, rfl, n1, by omega, Fa.words, by decide, l100, Fa.trees, fun H6 p2 sm6 np2 hp2 => ?_⟩
  have hp16 := sm6 _ _ hp1
  refine ⟨hz2, fun q nq => ⟨q, p1, p2, (nms L).map S, (nms L).map S, rfl, .of upd_same, .of (same_upd nq _ _ hp16), .of (same_upd nq _ _ hp2), S_code, S_code, fit Fa, ?_⟩⟩
  have s7 : Same H4 (upd H6 q (.lst [.ref p1, .ref p2])) := (sm5.trans sm6).trans (same_upd nq)
  have T7 := T4.keep s7
  generalize (upd H6 q (.lst [.ref p1, .ref p2])) = H7 at s7 T7
  refine ⟨.ref d, rfl, d, lotKv L ads, (nms L).map S, rfl, .of T7.at_d, lotKv_keys L ads T7.len, upn, fun ys sp pm srt nsp => ?_⟩
  have eys := sort_names ys pm srt
  subst eys
  refine ⟨sp, _, rfl, .inl ⟨.of upd_same, fun tp ntp => ?_⟩⟩
  have s8 : Same H7 (upd (upd H7 sp (.lst (((nms L).map S).map V.str))) tp (.tup (((nms L).map S).map V.str))) := (same_upd nsp).trans (same_upd ntp)
  have ht8 : (upd (upd H7 sp (.lst (((nms L).map S).map V.str))) tp (.tup (((nms L).map S).map V.str))) tp = some (.tup (((nms L).map S).map V.str)) := upd_same
  have T8 := T7.keep s8
  have s48 := s7.trans s8
  generalize (upd (upd H7 sp (.lst (((nms L).map S).map V.str))) tp (.tup (((nms L).map S).map V.str))) = H8 at s8 ht8 T8 s48
  refine ⟨(by show 1 ≤ sizeLine; decide), fun q1 nq1 => ?_⟩
  refine ⟨q1, 2, [.ref tp], rfl, rfl, upd_same, by decide, by decide, (by show 1 * 2 ≤ sizeLine; decide), fun q2 nq2 => ?_⟩
  have s9 : Same H8 (upd (upd H8 q1 (.lst [.ref tp])) q2 (.lst [.ref tp, .ref tp])) := (same_upd nq1).trans (same_upd nq2)
  refine ⟨q2, tp, tp, (nms L).map S, (nms L).map S, rfl, .of upd_same, .of (s9 _ _ ht8), .of (s9 _ _ ht8), S_code, S_code, fit Fa, ?_⟩
  have T9 := T8.keep s9
  have s49 := s48.trans s9
  show rNe _ _ (upd (upd H8 q1 (.lst [.ref tp])) q2 (.lst [.ref tp, .ref tp])) _
  generalize (upd (upd H8 q1 (.lst [.ref tp])) q2 (.lst [.ref tp, .ref tp])) = H9 at T9 s49
  refine ⟨rfl, _, rfl, ?_⟩
  refine ifF (by simp) ?_
  have big : ∀ i : Int, i.natAbs ≤ 100000 → i.natAbs.log2 < 1920 := fun i hi => by
    have : i.natAbs < 2 ^ 1920 := Nat.lt_of_le_of_lt hi (by decide)
    by_cases h0 : i.natAbs = 0
    · rw [h0] <;> decide
    · exact (Nat.log2_lt h0).mpr this
  refine ⟨.int n, rfl, n, rfl, n1, by omega, fun HA smA => ?_⟩
  have TA := T9.keep smA
  have s4A := s49.trans smA
  have em := Fa.many
  have el := lotKv_len TA.len
  have l60 := Fa.l60
  refine ⟨_, rfl, big _ (by rw [em]; omega), ?_⟩
  refine ⟨.ref d, rfl, d, _, rfl, TA.at_d, ?_⟩
  refine ⟨_, rfl, big _ (by rw [el]; omega), ?_⟩
  rw [em, el]
  refine ⟨rfl, _, rfl, ?_⟩
  refine ifF (by simp) ?_
  -- the second if
  have hwA : HA wl = some (.lst (tx (lawAll n))) := s4A _ _ hw4
  refine ⟨d, .dK (lotKv L ads), TA.at_d, by trivial, fun od => ?_⟩
  refine ⟨.ref d, rfl, d, od, rfl, .inl ⟨lotKv L ads, upd_same, fun D nD => ?_⟩⟩
  have nDd : D ≠ d := fun e => by
    rw [e, upd_same] at nD
    cases nD
  have nDA : HA D = none := by
    rw [upd_ne nDd] at nD
    exact nD
  have xA : SameX d HA (upd HA d (.frz od (.dK (lotKv L ads)))) := (SameX.refl d HA).upd
  refine lc_it (walk_keys (d := d) (o := od) (kvs := lotKv L ads)) (fun i H2 => SameX d HA H2 ∧ H2 d = some (.frz od (.dK (lotKv L ads))) ∧ H2 D = some (.lst (((L.take i).map fun p => ((p.2.length : Nat) : Int)).map V.int))) ⟨sameX_new xA nDA, by rw [upd_ne nDd.symm]; exact upd_same, upd_same⟩ (fun i H2 _ ⟨_, h, _⟩ => h) ?_ ?_
  · rintro i x H2 HX hi ⟨sx, hd, hD⟩ ⟨rfl, k, v, hk, rfl⟩
    obtain ⟨p, b, hp, hb, rfl, rfl⟩ := lotKv_at TA.len hk
    obtain ⟨r1, r2, r3⟩ := TA.row i b p hb hp
    have hil := (List.getElem?_eq_some_iff.mp hp).1
    have ep := (List.getElem?_eq_some_iff.mp hp).2
    refine ⟨rfl, .ref d, rfl, .str (S p.1), rfl, d, .ref b, rfl, .inl ⟨_, .inr (S p.1), .inr ⟨od, hd⟩, rfl, (lotKv_get L ads (up_nodup Fa.upL) i p b hp hb).symm⟩, ?_⟩
    refine ⟨b, tx p.2, rfl, .inl (.of (sx b _ r1 r3)), _, hD, ?_, sameX_new sx nDA, ?_, ?_⟩
    · rw [List.length_map, List.length_map, List.length_take]
      exact small1000 (by omega)
    · rw [upd_ne nDd.symm]
      exact hd
    · rw [upd_same, List.take_succ_eq_append_getElem hil, List.map_append, List.map_append, ep, tx_len] <;> rfl
  rintro H2 ⟨sx, hd, hD⟩
  rw [lotKv_len TA.len, List.take_length] at hD
  have sB := sameX_back sx TA.at_d
  have hDB : (upd H2 d (.dK (lotKv L ads))) D = some (.lst ((L.map fun p => ((p.2.length : Nat) : Int)).map V.int)) := by
    rw [upd_ne nDd]
    exact hD
  have TB := TA.keep sB
  refine ⟨hd, D, L.map fun p => ((p.2.length : Nat) : Int), rfl, .of hDB, ?_⟩
  rw [sum_lens, Fa.sum]
  have s4B := s4A.trans sB
  generalize (upd H2 d (.dK (lotKv L ads))) = HB at sB hDB TB s4B
  refine ⟨.ref wl, rfl, wl, _, rfl, .inl (.of (s4B _ _ hw4)), ?_⟩
  rw [tx_len]
  show rNe (V.int ((lawAll n).length : Int)) (V.int ((lawAll n).length : Int)) HB _
  refine ⟨rfl, _, rfl, ifF (by simp) ?_⟩
  refine ⟨d, .dK (lotKv L ads), TB.at_d, by trivial, fun od => ?_⟩
  refine ⟨.ref d, rfl, d, od, rfl, .inl ⟨lotKv L ads, upd_same, fun D nD => ?_⟩⟩
  have nDd : D ≠ d := fun e => by
    rw [e, upd_same] at nD
    cases nD
  have nDB : HB D = none := by
    rw [upd_ne nDd] at nD
    exact nD
  have xB : SameX d HB (upd HB d (.frz od (.dK (lotKv L ads)))) := (SameX.refl d HB).upd
  refine lc_it (walk_keys (d := d) (o := od) (kvs := lotKv L ads)) (fun i H2 => SameX d HB H2 ∧ H2 d = some (.frz od (.dK (lotKv L ads))) ∧ H2 D = some (.lst [])) ⟨sameX_new xB nDB, by rw [upd_ne nDd.symm]; exact upd_same, upd_same⟩ (fun i H2 _ ⟨_, h, _⟩ => h) ?_ ?_
  · rintro i x H2 HX hi ⟨sx, hd, hD⟩ ⟨rfl, k, v, hk, rfl⟩
    obtain ⟨p, b, hp, hb, rfl, rfl⟩ := lotKv_at TB.len hk
    obtain ⟨r1, r2, r3⟩ := TB.row i b p hb hp
    obtain ⟨_, f1, f2, f3, _⟩ := Fa.row p (List.mem_of_getElem? hp)
    refine ⟨rfl, .ref d, rfl, .str (S p.1), rfl, d, .ref b, rfl, .inl ⟨_, .inr (S p.1), .inr ⟨od, hd⟩, rfl, (lotKv_get L ads (up_nodup Fa.upL) i p b hp hb).symm⟩, ?_⟩
    refine ⟨b, p.2.map S, rfl, .of (sx b _ r1 r3), ?_, fun z hz hmin => ?_⟩
    · rw [List.length_map]
      exact (turnsOf_len f1).2.1
    · obtain ⟨y, hy, rfl⟩ := List.mem_map.mp hz
      rw [least_one f2 f3 hy hmin]
      refine ⟨.str (S p.1), rfl, rfl, _, rfl, ifF (by simp) ?_⟩
      exact ⟨sx, hd, hD⟩
  rintro H2 ⟨sx, hd, hD⟩
  have sC := sameX_back sx TB.at_d
  have hDC : (upd H2 d (.dK (lotKv L ads))) D = some (.lst []) := by
    rw [upd_ne nDd]
    exact hD
  have TC := TB.keep sC
  have s4C := s4B.trans sC
  refine ⟨hd, Nat.zero_le _, fun en nen => ?_⟩
  refine ⟨_, _, .lst (.of (same_upd nen _ _ hDC)) .nil, .lst (.of upd_same) .nil, by decide, by decide, _, rfl, ifF (by decide) ?_⟩
  have s4E := s4C.trans (same_upd (o := .lst []) nen)
  have TE := TC.keep (same_upd (o := .lst []) nen)
  generalize (upd (upd H2 d (.dK (lotKv L ads))) en (.lst [])) = HE at s4E TE
  have GrE := Gr4.keep s4E
  have eRow : ∀ i (hi : i < L.length), (nms L)[i]'(by rw [List.length_map]; exact hi) = L[i].1 := fun i hi => by simp
  -- the laps
  refine ⟨6, rfl, by decide, by decide, ?_⟩
  refine for_range (n := 6) (fun i σ H5 => ∃ (t l : Int) (c5 c6 : Option V), σ = [some (.ref a), some (.ref g), some (.int (n : Int)), some (.ref wl), some (.ref d), c5, c6, none] ∧ Gr H5 g c cells t l ∧ t ≤ 1 + 2 * (i : Int) ∧ Lots H3 H5 d ads L)
    ⟨t1, l1, none, none, rfl, GrE, by omega, TE⟩ ?_ ?_
  · rintro i σ H5 hi ⟨t, l, c5, c6, rfl, Gr5, ht, T5⟩
    refine ⟨.ref g, rfl, .ref d, rfl, d, lotKv L ads, (nms L).map S, rfl, .of T5.at_d, lotKv_keys L ads T5.len, upn, fun ys sp pm srt nsp => ?_⟩
    have eys := sort_names ys pm srt
    subst eys
    have nsg : sp ≠ g := fun e => by
      rw [e, Gr5.at_g] at nsp
      cases nsp
    have ll : (tx (nms L)).length = L.length := by
      rw [tx_len, List.length_map]
    have l1' := Fa.l1
    refine ⟨g, c, sp, cells, t, l, tx (nms L), rfl, Gr5.keep (same_upd nsp), by omega, hcl, .of upd_same, nsg, by omega, by omega, fun H6 r t6 l6 x sx6 Gr6 ht6 hx => ?_⟩
    obtain ⟨hr, rfl⟩ := tx_get hx
    have hrL : r < L.length := by
      rw [List.length_map] at hr
      exact hr
    have T6 : Lots H3 H6 d ads L := (T5.keep (same_upd nsp)).keepX sx6 ndg nag
    have hra : r < ads.length := by
      rw [T6.len]
      exact hrL
    rw [eRow r hrL]
    obtain ⟨r1, r2, r3⟩ := T6.row r ads[r] L[r] (List.getElem?_eq_getElem hra) (List.getElem?_eq_getElem hrL)
    obtain ⟨f0, f1, f2, f3, f4⟩ := Fa.row L[r] (List.getElem_mem hrL)
    have tl := turnsOf_len f1
    refine ⟨.ref g, rfl, .ref d, rfl, .str (S L[r].1), rfl, d, .ref ads[r], rfl, .inl ⟨_, .inr (S L[r].1), .inl T6.at_d, rfl, (lotKv_get L ads (up_nodup Fa.upL) r L[r] ads[r] (List.getElem?_eq_getElem hrL) (List.getElem?_eq_getElem hra)).symm⟩, ?_⟩
    refine ⟨g, c, ads[r], cells, t6, l6, tx L[r].2, rfl, Gr6, by omega, hcl, .of r3, nag r _ (List.getElem?_eq_getElem hra), by rw [tx_len]; omega, by rw [tx_len]; omega, fun H7 q t7 l7 x sx7 Gr7 ht7 hx2 => ?_⟩
    obtain ⟨hq, rfl⟩ := tx_get hx2
    obtain ⟨g1, ts, g2, g3, g4⟩ := f4 L[r].2[q] (List.getElem_mem hq)
    refine ⟨L[r].2[q], L[r].1, ts, rfl, g1, g2, g3, g4, fun H8 sm8 => ?_⟩
    refine ⟨.str (S L[r].1), rfl, rfl, _, rfl, ifF (by simp) ?_⟩
    exact ⟨t7, l7, _, _, rfl, Gr7.keep sm8, by omega, (T6.keepX sx7 ndg nag).keep sm8⟩
  rintro σ H5 ⟨t, l, c5, c6, rfl, Gr5, ht, T5⟩
  refine ⟨.ref g, rfl, g, c, cells, t, l, 40, rfl, Gr5, by omega, by decide, by decide, hcl, fun H6 r t6 l6 sx6 Gr6 ht6 hr => ?_⟩
  refine ⟨rfl, _, rfl, ite2 (fun _ => rfl) (fun _ => ?_)⟩
  -- all of nine pairs
  obtain ⟨fu, k, hk, hfu, w9, L9, F9⟩ : ∃ fu k, k = 9 ∧ fu ≤ 10000 ∧ ∃ ws L, Facts9 fu k ws L := ⟨5000, 9, rfl, by decide, facts9_of h9⟩
  refine ⟨k, fu, w9, L9, by rw [hk] <;> rfl, by omega, by omega, F9.words, hfu, F9.lens, F9.trees, fun H7 tp sm7 np7 hp7 => ?_⟩
  have l300 := F9.l300
  have l41 := F9.l41
  have nl : (nms L9).length = L9.length := List.length_map ..
  have nd9 : ((nms L9).map S).Nodup := List.pairwise_map.mpr ((up_nodup F9.upL).imp fun h e => h (S_inj e))
  have small9 : (302 : Nat) < scanBound := by decide
  -- list(told) == sorted(set(told))
  refine ⟨.ref tp, rfl, tp, tx (nms L9), rfl, .inr (.of hp7), fun lp nlp => ?_⟩
  have hp8 := same_upd (o := .lst (tx (nms L9))) nlp _ _ hp7
  refine ⟨.ref tp, rfl, tp, (nms L9).map S, rfl, .of hp8, nd9, by rw [List.length_map, nl]; omega, fun sp nsp => ?_⟩
  refine ⟨sp, _, rfl, upd_same, by rw [List.length_reverse, List.length_map, nl, sizeLine_eq]; omega, fun ys qp pm srt nqp => ?_⟩
  have eys := sorted_one _ ys (pm.trans (List.reverse_perm _)) F9.upL srt
  subst eys
  have hl9 : (upd H7 lp (.lst (tx (nms L9)))) lp = some (.lst (tx (nms L9))) := upd_same
  have s9 : Same H7 (upd (upd (upd H7 lp (.lst (tx (nms L9)))) sp (SetTxO _ sp ((nms L9).map S).reverse)) qp (.lst (tx (nms L9)))) := ((same_upd nlp).trans (same_upd nsp)).trans (same_upd nqp)
  refine ⟨tdata (nms L9), tdata (nms L9), .lst (.of (same_upd nqp _ _ (same_upd nsp _ _ hl9))) (dp_strs _), .lst (.of upd_same) (dp_strs _), shaped_tx _, shaped_tx _, ?_⟩
  rw [eqv_tx]
  refine ⟨true, rfl, iteT ?_⟩
  have hpB := s9 _ _ hp7
  show tAndV _ _ _ (upd (upd (upd H7 lp (.lst (tx (nms L9)))) sp (SetTxO _ sp ((nms L9).map S).reverse)) qp (.lst (tx (nms L9)))) _
  generalize (upd (upd (upd H7 lp (.lst (tx (nms L9)))) sp (SetTxO _ sp ((nms L9).map S).reverse)) qp (.lst (tx (nms L9)))) = HB at hpB
  have nmA : ∀ i (hi : i < L9.length), (nms L9)[i]'(by rw [List.length_map]; exact hi) = L9[i].1 := fun i hi => by simp
  -- sum([len(turns(name)) for name in told]) == 4862
  refine ⟨.ref tp, rfl, tp, rfl, ⟨_, .of hpB⟩, fun D nD => ?_⟩
  refine lc_it (walk_tup (K := K) (xs := tx (nms L9))) (fun i H2 => Same HB H2 ∧ H2 D = some (.lst (((L9.take i).map fun p => ((p.2.length : Nat) : Int)).map V.int))) ⟨same_upd nD, upd_same⟩ (fun i H2 _ ⟨sm, _⟩ => .of (sm _ _ hpB)) ?_ ?_
  · rintro i x H2 HX hi ⟨sm, hD⟩ ⟨rfl, hx⟩
    obtain ⟨hi2, rfl⟩ := tx_get hx
    have hiL : i < L9.length := by rw [← nl]; exact hi2
    rw [nmA i hiL]
    obtain ⟨f0, f1, f2⟩ := F9.row L9[i] (List.getElem_mem hiL)
    refine ⟨rfl, .str (S L9[i].1), rfl, L9[i].1, L9[i].2, rfl, f1, by omega, fun H4 p sm4 np hp => ?_⟩
    refine ⟨p, tx L9[i].2, rfl, .inl (.of hp), _, sm4 _ _ hD, ?_, ?_, ?_⟩
    · rw [List.length_map, List.length_map, List.length_take]
      exact small1000 (by omega)
    · exact same_upd2 (sm.trans sm4) nD
    · rw [upd_same, List.take_succ_eq_append_getElem hiL, List.map_append, List.map_append, tx_len] <;> rfl
  rintro H2 ⟨sm, hD⟩
  rw [tx_len, nl, List.take_length] at hD
  refine ⟨D, L9.map fun p => ((p.2.length : Nat) : Int), rfl, .of hD, ?_⟩
  rw [sum_lens, F9.sum]
  refine ⟨rfl, true, rfl, iteT ?_⟩
  have hpC := sm _ _ hpB
  -- the first forty are the least of their turns
  have hcut : cutV (tx (nms L9)) none (some 40) = tx (nms (L9.take 40)) := by
    unfold cutV
    rw [HT.sIx_none, show (40 : Int) = ((40 : Nat) : Int) from rfl, HT.sIx_nat, tx_len, nl, Nat.min_eq_left (by omega), List.drop_zero, Nat.sub_zero]
    unfold tx nms
    rw [← List.map_take, ← List.map_take, ← List.map_take]
  refine ⟨.ref tp, rfl, 40, rfl, tp, tx (nms L9), rfl, .of hpC, ?_, fun sl nsl => ?_⟩
  · rw [show (40 : Int) = ((40 : Nat) : Int) from rfl, HT.sIx_nat, tx_len, nl]
    omega
  rw [hcut]
  refine ⟨sl, rfl, ⟨_, .of upd_same⟩, fun D2 nD2 => ?_⟩
  have hs2 : (upd H2 sl (.tup (tx (nms (L9.take 40))))) sl = some (.tup (tx (nms (L9.take 40)))) := upd_same
  generalize (upd H2 sl (.tup (tx (nms (L9.take 40))))) = H3' at nD2 hs2
  refine lc_it (walk_tup (K := K) (xs := tx (nms (L9.take 40)))) (fun i H4 => Same H3' H4 ∧ H4 D2 = some (.lst [])) ⟨same_upd nD2, upd_same⟩ (fun i H4 _ ⟨sm, _⟩ => .of (sm _ _ hs2)) ?_ ?_
  · rintro i x H4 HX hi ⟨sm, hD⟩ ⟨rfl, hx⟩
    obtain ⟨hi2, rfl⟩ := tx_get hx
    have hiL : i < (L9.take 40).length := by rw [← List.length_map (f := fun p : W × List W => p.1)]; exact hi2
    have en : (nms (L9.take 40))[i] = (L9.take 40)[i].1 := by simp
    rw [en]
    have hm := List.getElem_mem hiL
    obtain ⟨f0, f1, f2⟩ := F9.row _ (List.mem_of_mem_take hm)
    have f3 := F9.least _ hm
    generalize (L9.take 40)[i] = p at f0 f1 f2 f3
    refine ⟨rfl, .str (S p.1), rfl, p.1, p.2, rfl, f1, by omega, fun H5 b sm5 nb hb => ?_⟩
    refine ⟨b, p.2.map S, rfl, .of hb, ?_, fun z hz hmin => ?_⟩
    · rw [List.length_map]
      exact (turnsOf_len f1).2.1
    · obtain ⟨y, hy, rfl⟩ := List.mem_map.mp hz
      rw [least_one f2 f3 hy hmin]
      refine ⟨.str (S p.1), rfl, rfl, _, rfl, ifF (by simp) ?_⟩
      exact ⟨sm.trans sm5, sm5 _ _ hD⟩
  rintro H4 ⟨sm4, hD⟩
  refine ⟨Nat.zero_le _, fun en nen => ?_⟩
  exact ⟨_, _, .lst (.of (same_upd nen _ _ hD)) .nil, .lst (.of upd_same) .nil, by decide, by decide, rfl⟩
end
end K15
namespace K15
open PySem PySem.Spec PyProof.Rows L2
/-! ### what the top has written; the law's call from it -/
theorem df_mk {K : PySem.W.Frag} {h : Heap} {mg : Str → Option Value} {x : Str} {st : Stmt} {f : Addr} {ps : List Str} {oc : Value} {od an : Option Addr} {osl : Array (Option Value)} {kV doc pm cdv ct : Value} (X : K.In h) (G : h.Ns mainGlobals mg) (a : PySem.W.nsIn K mainGlobals x = some (some (.ref f)))
    (l : K.lookup f = some ⟨oc, od, .func (PySem.W.fnOf x x (defArgs st) (defBody st) (defScope st) .none kV doc pm an cdv ct), osl⟩) (c : PySem.W.codeIn K cdv x = true) (k : PySem.W.keepIn K (.ref f) = true)
    (hb : ∀ (kV doc pm : Value) (an : Option Addr) (cdv ct : Value) (us : List Value), us.length = ps.length → bindArgs (PySem.W.fnOf x x (defArgs st) (defBody st) (defScope st) .none kV doc pm an cdv ct) ⟨us, []⟩ = pure (ps.zip us)) :
    Df K mg x st f (PySem.W.fnOf x x (defArgs st) (defBody st) (defScope st) .none kV doc pm an cdv ct) ps :=
  ⟨fun_mk l c k, (fun_mk (st := st) l c k).binds hb, PySem.W.mg_of X G a⟩
/-- all_trees(pairs = v) -/
theorem kb_mk {K : PySem.W.Frag} {kV doc pm cdv ct : Value} {an : Option Addr} : KBinds K (PySem.W.fnOf "all_trees" "all_trees" (defArgs sAllTrees) (defBody sAllTrees) (defScope sAllTrees) .none kV doc pm an cdv ct) ["pairs"] ["pairs"] gCat gCat := by
  refine ⟨fun s us ws X hl => ?_, fun r1 r2 => r1.append r2⟩
  match us, ws, hl with
  | [], [v], _ => exact .of_eq rfl
  | [v], [], _ => exact .of_eq rfl
theorem all_mk {P : Program} {w : World} {K : PySem.W.Frag} {h base : Heap} {mg : Str → Option Value} {s : Shared} {H : Hp} {fa a : Addr} {ns : List Int} (X : K.In h) (G : h.Ns mainGlobals mg) (hfa : mg "law" = some (.ref fa)) (hlen : ns.length ≤ 63) (e0 : Env0 P w K mg base callerA [] s H) (hS : SqL K H a (ns.map V.int))
    (hs : smallTab 7 = true) (h7 : ∀ n, 1 ≤ n → n ≤ 7 → good7 n = true) (h9 : good9 = true)
    {f0 f1 f2 f3 f4 f5 f6 f7 f8 f9 f10 f11 f12 f13 f14 f15 f16 f17 f18 f19 f20 f21 f22 f23 f24 f25 f26 f27 f28 f29 T : Addr} {od0 an0 od1 an1 od2 an2 od3 an3 od4 an4 od5 an5 od6 an6 od7 an7 od8 an8 od9 an9 od10 an10 od11 an11 od12 an12 od13 an13 od14 an14 od15 an15 od16 an16 od17 an17 od18 an18 od19 an19 od20 an20 od21 an21 od22 an22 od23 an23 od24 an24 od25 an25 od26 an26 od27 an27 od28 an28 od29 an29 odT : Option Addr} {sl0 sl1 sl2 sl3 sl4 sl5 sl6 sl7 sl8 sl9 sl10 sl11 sl12 sl13 sl14 sl15 sl16 sl17 sl18 sl19 sl20 sl21 sl22 sl23 sl24 sl25 sl26 sl27 sl28 sl29 slT : Array (Option Value)} {oc0 kV0 dc0 pm0 cd0 ct0 oc1 kV1 dc1 pm1 cd1 ct1 oc2 kV2 dc2 pm2 cd2 ct2 oc3 kV3 dc3 pm3 cd3 ct3 oc4 kV4 dc4 pm4 cd4 ct4 oc5 kV5 dc5 pm5 cd5 ct5 oc6 kV6 dc6 pm6 cd6 ct6 oc7 kV7 dc7 pm7 cd7 ct7 oc8 kV8 dc8 pm8 cd8 ct8 oc9 kV9 dc9 pm9 cd9 ct9 oc10 kV10 dc10 pm10 cd10 ct10 oc11 kV11 dc11 pm11 cd11 ct11 oc12 kV12 dc12 pm12 cd12 ct12 oc13 kV13 dc13 pm13 cd13 ct13 oc14 kV14 dc14 pm14 cd14 ct14 oc15 kV15 dc15 pm15 cd15 ct15 oc16 kV16 dc16 pm16 cd16 ct16 oc17 kV17 dc17 pm17 cd17 ct17 oc18 kV18 dc18 pm18 cd18 ct18 oc19 kV19 dc19 pm19 cd19 ct19 oc20 kV20 dc20 pm20 cd20 ct20 oc21 kV21 dc21 pm21 cd21 ct21 oc22 kV22 dc22 pm22 cd22 ct22 oc23 kV23 dc23 pm23 cd23 ct23 oc24 kV24 dc24 pm24 cd24 ct24 oc25 kV25 dc25 pm25 cd25 ct25 oc26 kV26 dc26 pm26 cd26 ct26 oc27 kV27 dc27 pm27 cd27 ct27 oc28 kV28 dc28 pm28 cd28 ct28 oc29 kV29 dc29 pm29 cd29 ct29 ocT : Value} {t0 t1 t2 t3 : Tok} {vT : Array Value} {nT : Nat}
    (a0 : PySem.W.nsIn K mainGlobals "is_integer" = some (some (.ref f0))) (l0 : K.lookup f0 = some ⟨oc0, od0, .func (PySem.W.fnOf "is_integer" "is_integer" (defArgs sInteger) (defBody sInteger) (defScope sInteger) .none kV0 dc0 pm0 an0 cd0 ct0), sl0⟩) (c0 : PySem.W.codeIn K cd0 "is_integer" = true) (k0 : PySem.W.keepIn K (.ref f0) = true)
    (a1 : PySem.W.nsIn K mainGlobals "is_within" = some (some (.ref f1))) (l1 : K.lookup f1 = some ⟨oc1, od1, .func (PySem.W.fnOf "is_within" "is_within" (defArgs sWithin) (defBody sWithin) (defScope sWithin) .none kV1 dc1 pm1 an1 cd1 ct1), sl1⟩) (c1 : PySem.W.codeIn K cd1 "is_within" = true) (k1 : PySem.W.keepIn K (.ref f1) = true)
    (a2 : PySem.W.nsIn K mainGlobals "is_signs" = some (some (.ref f2))) (l2 : K.lookup f2 = some ⟨oc2, od2, .func (PySem.W.fnOf "is_signs" "is_signs" (defArgs sSigns) (defBody sSigns) (defScope sSigns) .none kV2 dc2 pm2 an2 cd2 ct2), sl2⟩) (c2 : PySem.W.codeIn K cd2 "is_signs" = true) (k2 : PySem.W.keepIn K (.ref f2) = true)
    (a3 : PySem.W.nsIn K mainGlobals "need_number" = some (some (.ref f3))) (l3 : K.lookup f3 = some ⟨oc3, od3, .func (PySem.W.fnOf "need_number" "need_number" (defArgs sNeedNum) (defBody sNeedNum) (defScope sNeedNum) .none kV3 dc3 pm3 an3 cd3 ct3), sl3⟩) (c3 : PySem.W.codeIn K cd3 "need_number" = true) (k3 : PySem.W.keepIn K (.ref f3) = true)
    (a4 : PySem.W.nsIn K mainGlobals "is_word" = some (some (.ref f4))) (l4 : K.lookup f4 = some ⟨oc4, od4, .func (PySem.W.fnOf "is_word" "is_word" (defArgs sIsWord) (defBody sIsWord) (defScope sIsWord) .none kV4 dc4 pm4 an4 cd4 ct4), sl4⟩) (c4 : PySem.W.codeIn K cd4 "is_word" = true) (k4 : PySem.W.keepIn K (.ref f4) = true)
    (a5 : PySem.W.nsIn K mainGlobals "need_word" = some (some (.ref f5))) (l5 : K.lookup f5 = some ⟨oc5, od5, .func (PySem.W.fnOf "need_word" "need_word" (defArgs sNeedWord) (defBody sNeedWord) (defScope sNeedWord) (.ref T) kV5 dc5 pm5 an5 cd5 ct5), sl5⟩) (c5 : PySem.W.codeIn K cd5 "need_word" = true) (k5 : PySem.W.keepIn K (.ref f5) = true)
    (a6 : PySem.W.nsIn K mainGlobals "first_pair_in" = some (some (.ref f6))) (l6 : K.lookup f6 = some ⟨oc6, od6, .func (PySem.W.fnOf "first_pair_in" "first_pair_in" (defArgs sFirst) (defBody sFirst) (defScope sFirst) .none kV6 dc6 pm6 an6 cd6 ct6), sl6⟩) (c6 : PySem.W.codeIn K cd6 "first_pair_in" = true) (k6 : PySem.W.keepIn K (.ref f6) = true)
    (a7 : PySem.W.nsIn K mainGlobals "turned_in" = some (some (.ref f7))) (l7 : K.lookup f7 = some ⟨oc7, od7, .func (PySem.W.fnOf "turned_in" "turned_in" (defArgs sTurned) (defBody sTurned) (defScope sTurned) .none kV7 dc7 pm7 an7 cd7 ct7), sl7⟩) (c7 : PySem.W.codeIn K cd7 "turned_in" = true) (k7 : PySem.W.keepIn K (.ref f7) = true)
    (a8 : PySem.W.nsIn K mainGlobals "turns_in" = some (some (.ref f8))) (l8 : K.lookup f8 = some ⟨oc8, od8, .func (PySem.W.fnOf "turns_in" "turns_in" (defArgs sTurns) (defBody sTurns) (defScope sTurns) .none kV8 dc8 pm8 an8 cd8 ct8), sl8⟩) (c8 : PySem.W.codeIn K cd8 "turns_in" = true) (k8 : PySem.W.keepIn K (.ref f8) = true)
    (a9 : PySem.W.nsIn K mainGlobals "lots" = some (some (.ref f9))) (l9 : K.lookup f9 = some ⟨oc9, od9, .func (PySem.W.fnOf "lots" "lots" (defArgs sLots) (defBody sLots) (defScope sLots) .none kV9 dc9 pm9 an9 cd9 ct9), sl9⟩) (c9 : PySem.W.codeIn K cd9 "lots" = true) (k9 : PySem.W.keepIn K (.ref f9) = true)
    (a10 : PySem.W.nsIn K mainGlobals "ways_on" = some (some (.ref f10))) (l10 : K.lookup f10 = some ⟨oc10, od10, .func (PySem.W.fnOf "ways_on" "ways_on" (defArgs sWays) (defBody sWays) (defScope sWays) .none kV10 dc10 pm10 an10 cd10 ct10), sl10⟩) (c10 : PySem.W.codeIn K cd10 "ways_on" = true) (k10 : PySem.W.keepIn K (.ref f10) = true)
    (a11 : PySem.W.nsIn K mainGlobals "all_in" = some (some (.ref f11))) (l11 : K.lookup f11 = some ⟨oc11, od11, .func (PySem.W.fnOf "all_in" "all_in" (defArgs sAllIn) (defBody sAllIn) (defScope sAllIn) .none kV11 dc11 pm11 an11 cd11 ct11), sl11⟩) (c11 : PySem.W.codeIn K cd11 "all_in" = true) (k11 : PySem.W.keepIn K (.ref f11) = true)
    (a12 : PySem.W.nsIn K mainGlobals "behind_in" = some (some (.ref f12))) (l12 : K.lookup f12 = some ⟨oc12, od12, .func (PySem.W.fnOf "behind_in" "behind_in" (defArgs sBehind) (defBody sBehind) (defScope sBehind) .none kV12 dc12 pm12 an12 cd12 ct12), sl12⟩) (c12 : PySem.W.codeIn K cd12 "behind_in" = true) (k12 : PySem.W.keepIn K (.ref f12) = true)
    (a13 : PySem.W.nsIn K mainGlobals "all_words" = some (some (.ref f13))) (l13 : K.lookup f13 = some ⟨oc13, od13, .func (PySem.W.fnOf "all_words" "all_words" (defArgs sAllWords) (defBody sAllWords) (defScope sAllWords) .none kV13 dc13 pm13 an13 cd13 ct13), sl13⟩) (c13 : PySem.W.codeIn K cd13 "all_words" = true) (k13 : PySem.W.keepIn K (.ref f13) = true)
    (a14 : PySem.W.nsIn K mainGlobals "name_in" = some (some (.ref f14))) (l14 : K.lookup f14 = some ⟨oc14, od14, .func (PySem.W.fnOf "name_in" "name_in" (defArgs sNameIn) (defBody sNameIn) (defScope sNameIn) .none kV14 dc14 pm14 an14 cd14 ct14), sl14⟩) (c14 : PySem.W.codeIn K cd14 "name_in" = true) (k14 : PySem.W.keepIn K (.ref f14) = true)
    (a15 : PySem.W.nsIn K mainGlobals "has_common" = some (some (.ref f15))) (l15 : K.lookup f15 = some ⟨oc15, od15, .func (PySem.W.fnOf "has_common" "has_common" (defArgs sCommon) (defBody sCommon) (defScope sCommon) .none kV15 dc15 pm15 an15 cd15 ct15), sl15⟩) (c15 : PySem.W.codeIn K cd15 "has_common" = true) (k15 : PySem.W.keepIn K (.ref f15) = true)
    (a16 : PySem.W.nsIn K mainGlobals "how_many_apart" = some (some (.ref f16))) (l16 : K.lookup f16 = some ⟨oc16, od16, .func (PySem.W.fnOf "how_many_apart" "how_many_apart" (defArgs sApart) (defBody sApart) (defScope sApart) .none kV16 dc16 pm16 an16 cd16 ct16), sl16⟩) (c16 : PySem.W.codeIn K cd16 "how_many_apart" = true) (k16 : PySem.W.keepIn K (.ref f16) = true)
    (a17 : PySem.W.nsIn K mainGlobals "with_place" = some (some (.ref f17))) (l17 : K.lookup f17 = some ⟨oc17, od17, .func (PySem.W.fnOf "with_place" "with_place" (defArgs sPlace) (defBody sPlace) (defScope sPlace) .none kV17 dc17 pm17 an17 cd17 ct17), sl17⟩) (c17 : PySem.W.codeIn K cd17 "with_place" = true) (k17 : PySem.W.keepIn K (.ref f17) = true)
    (a18 : PySem.W.nsIn K mainGlobals "with_tie" = some (some (.ref f18))) (l18 : K.lookup f18 = some ⟨oc18, od18, .func (PySem.W.fnOf "with_tie" "with_tie" (defArgs sTie) (defBody sTie) (defScope sTie) .none kV18 dc18 pm18 an18 cd18 ct18), sl18⟩) (c18 : PySem.W.codeIn K cd18 "with_tie" = true) (k18 : PySem.W.keepIn K (.ref f18) = true)
    (a19 : PySem.W.nsIn K mainGlobals "name_of" = some (some (.ref f19))) (l19 : K.lookup f19 = some ⟨oc19, od19, .func (PySem.W.fnOf "name_of" "name_of" (defArgs sNameOf) (defBody sNameOf) (defScope sNameOf) .none kV19 dc19 pm19 an19 cd19 ct19), sl19⟩) (c19 : PySem.W.codeIn K cd19 "name_of" = true) (k19 : PySem.W.keepIn K (.ref f19) = true)
    (a20 : PySem.W.nsIn K mainGlobals "how_many_trees" = some (some (.ref f20))) (l20 : K.lookup f20 = some ⟨oc20, od20, .func (PySem.W.fnOf "how_many_trees" "how_many_trees" (defArgs sHow) (defBody sHow) (defScope sHow) .none kV20 dc20 pm20 an20 cd20 ct20), sl20⟩) (c20 : PySem.W.codeIn K cd20 "how_many_trees" = true) (k20 : PySem.W.keepIn K (.ref f20) = true)
    (a21 : PySem.W.nsIn K mainGlobals "all_trees" = some (some (.ref f21))) (l21 : K.lookup f21 = some ⟨oc21, od21, .func (PySem.W.fnOf "all_trees" "all_trees" (defArgs sAllTrees) (defBody sAllTrees) (defScope sAllTrees) .none kV21 dc21 pm21 an21 cd21 ct21), sl21⟩) (c21 : PySem.W.codeIn K cd21 "all_trees" = true) (k21 : PySem.W.keepIn K (.ref f21) = true)
    (a22 : PySem.W.nsIn K mainGlobals "_law_grove" = some (some (.ref f22))) (l22 : K.lookup f22 = some ⟨oc22, od22, .func (PySem.W.fnOf "_law_grove" "_law_grove" (defArgs sGrove) (defBody sGrove) (defScope sGrove) .none kV22 dc22 pm22 an22 cd22 ct22), sl22⟩) (c22 : PySem.W.codeIn K cd22 "_law_grove" = true) (k22 : PySem.W.keepIn K (.ref f22) = true)
    (a23 : PySem.W.nsIn K mainGlobals "_law_fell" = some (some (.ref f23))) (l23 : K.lookup f23 = some ⟨oc23, od23, .func (PySem.W.fnOf "_law_fell" "_law_fell" (defArgs sFell) (defBody sFell) (defScope sFell) .none kV23 dc23 pm23 an23 cd23 ct23), sl23⟩) (c23 : PySem.W.codeIn K cd23 "_law_fell" = true) (k23 : PySem.W.keepIn K (.ref f23) = true)
    (a24 : PySem.W.nsIn K mainGlobals "_law_one_of" = some (some (.ref f24))) (l24 : K.lookup f24 = some ⟨oc24, od24, .func (PySem.W.fnOf "_law_one_of" "_law_one_of" (defArgs sOneOf) (defBody sOneOf) (defScope sOneOf) .none kV24 dc24 pm24 an24 cd24 ct24), sl24⟩) (c24 : PySem.W.codeIn K cd24 "_law_one_of" = true) (k24 : PySem.W.keepIn K (.ref f24) = true)
    (a25 : PySem.W.nsIn K mainGlobals "_law_all" = some (some (.ref f25))) (l25 : K.lookup f25 = some ⟨oc25, od25, .func (PySem.W.fnOf "_law_all" "_law_all" (defArgs sLAll) (defBody sLAll) (defScope sLAll) .none kV25 dc25 pm25 an25 cd25 ct25), sl25⟩) (c25 : PySem.W.codeIn K cd25 "_law_all" = true) (k25 : PySem.W.keepIn K (.ref f25) = true)
    (a26 : PySem.W.nsIn K mainGlobals "_law_turned" = some (some (.ref f26))) (l26 : K.lookup f26 = some ⟨oc26, od26, .func (PySem.W.fnOf "_law_turned" "_law_turned" (defArgs sLTurned) (defBody sLTurned) (defScope sLTurned) .none kV26 dc26 pm26 an26 cd26 ct26), sl26⟩) (c26 : PySem.W.codeIn K cd26 "_law_turned" = true) (k26 : PySem.W.keepIn K (.ref f26) = true)
    (a27 : PySem.W.nsIn K mainGlobals "_law_turns" = some (some (.ref f27))) (l27 : K.lookup f27 = some ⟨oc27, od27, .func (PySem.W.fnOf "_law_turns" "_law_turns" (defArgs sLTurns) (defBody sLTurns) (defScope sLTurns) .none kV27 dc27 pm27 an27 cd27 ct27), sl27⟩) (c27 : PySem.W.codeIn K cd27 "_law_turns" = true) (k27 : PySem.W.keepIn K (.ref f27) = true)
    (a28 : PySem.W.nsIn K mainGlobals "_law_lots" = some (some (.ref f28))) (l28 : K.lookup f28 = some ⟨oc28, od28, .func (PySem.W.fnOf "_law_lots" "_law_lots" (defArgs sLLots) (defBody sLLots) (defScope sLLots) .none kV28 dc28 pm28 an28 cd28 ct28), sl28⟩) (c28 : PySem.W.codeIn K cd28 "_law_lots" = true) (k28 : PySem.W.keepIn K (.ref f28) = true)
    (a29 : PySem.W.nsIn K mainGlobals "law" = some (some (.ref f29))) (l29 : K.lookup f29 = some ⟨oc29, od29, .func (PySem.W.fnOf "law" "law" (defArgs sLaw) (defBody sLaw) (defScope sLaw) .none kV29 dc29 pm29 an29 cd29 ct29), sl29⟩) (c29 : PySem.W.codeIn K cd29 "law" = true) (k29 : PySem.W.keepIn K (.ref f29) = true)
    (lT : K.lookup T = some ⟨ocT, odT, .seq vT nT, slT⟩) (vvT : Vals [V.str (Str.ofString "word")] vT.toList)
    (z0 : PySem.W.nsIn K mainGlobals "isinstance" = some none) (z1 : PySem.W.nsIn K mainGlobals "int" = some none) (z2 : PySem.W.nsIn K mainGlobals "bool" = some none) (z3 : PySem.W.nsIn K mainGlobals "str" = some none) (z4 : PySem.W.nsIn K mainGlobals "all" = some none) (z5 : PySem.W.nsIn K mainGlobals "len" = some none) (z6 : PySem.W.nsIn K mainGlobals "enumerate" = some none) (z7 : PySem.W.nsIn K mainGlobals "range" = some none) (z8 : PySem.W.nsIn K mainGlobals "tuple" = some none) (z9 : PySem.W.nsIn K mainGlobals "min" = some none) (z10 : PySem.W.nsIn K mainGlobals "abs" = some none) (z11 : PySem.W.nsIn K mainGlobals "sorted" = some none) (z12 : PySem.W.nsIn K mainGlobals "sum" = some none) (z13 : PySem.W.nsIn K mainGlobals "list" = some none) (z14 : PySem.W.nsIn K mainGlobals "set" = some none) (z15 : PySem.W.nsIn K mainGlobals "repr" = some none)
    (y0 : PySem.W.nsIn K mainGlobals "SIGNS" = some (some (.str (S [false, true]) t0))) (y1 : PySem.W.nsIn K mainGlobals "MOST_PAIRS" = some (some (.int 200 t1))) (y2 : PySem.W.nsIn K mainGlobals "MOST_LISTED_word_numbers" = some (some (.int 9 t2))) (y3 : PySem.W.nsIn K mainGlobals "MOST_LISTED_tree_names" = some (some (.int 9 t3))) :
    codeAny (model P w) callerA (.call (.ref fa) ⟨[.ref a], []⟩) (CR CX0 [] P w H s (fun v _ => v = .bl true) E0) s := by
  have e := hfa.symm.trans (PySem.W.mg_of X G a29)
  cases e
  have B : Bl mg := ⟨PySem.W.mg_none_of X G z0, PySem.W.mg_none_of X G z1, PySem.W.mg_none_of X G z2, PySem.W.mg_none_of X G z3, PySem.W.mg_none_of X G z4, PySem.W.mg_none_of X G z5, PySem.W.mg_none_of X G z6, PySem.W.mg_none_of X G z7, PySem.W.mg_none_of X G z8, PySem.W.mg_none_of X G z9, PySem.W.mg_none_of X G z10, PySem.W.mg_none_of X G z11, PySem.W.mg_none_of X G z12, PySem.W.mg_none_of X G z13, PySem.W.mg_none_of X G z14, PySem.W.mg_none_of X G z15, ⟨t0, PySem.W.mg_of X G y0⟩, ⟨t1, PySem.W.mg_of X G y1⟩, ⟨t2, PySem.W.mg_of X G y2⟩, ⟨t3, PySem.W.mg_of X G y3⟩⟩
  have D0 := df_mk (st := sInteger) (ps := ["value"]) X G a0 l0 c0 k0 fun _ _ _ _ _ _ us hl => match us, hl with | [_], _ => rfl
  have D1 := df_mk (st := sWithin) (ps := ["value", "least", "most"]) X G a1 l1 c1 k1 fun _ _ _ _ _ _ us hl => match us, hl with | [_, _, _], _ => rfl
  have D2 := df_mk (st := sSigns) (ps := ["value"]) X G a2 l2 c2 k2 fun _ _ _ _ _ _ us hl => match us, hl with | [_], _ => rfl
  have D3 := df_mk (st := sNeedNum) (ps := ["value", "part", "least", "most"]) X G a3 l3 c3 k3 fun _ _ _ _ _ _ us hl => match us, hl with | [_, _, _, _], _ => rfl
  have D4 := df_mk (st := sIsWord) (ps := ["value"]) X G a4 l4 c4 k4 fun _ _ _ _ _ _ us hl => match us, hl with | [_], _ => rfl
  have D6 := df_mk (st := sFirst) (ps := ["word"]) X G a6 l6 c6 k6 fun _ _ _ _ _ _ us hl => match us, hl with | [_], _ => rfl
  have D7 := df_mk (st := sTurned) (ps := ["word"]) X G a7 l7 c7 k7 fun _ _ _ _ _ _ us hl => match us, hl with | [_], _ => rfl
  have D8 := df_mk (st := sTurns) (ps := ["word"]) X G a8 l8 c8 k8 fun _ _ _ _ _ _ us hl => match us, hl with | [_], _ => rfl
  have D9 := df_mk (st := sLots) (ps := ["many", "some"]) X G a9 l9 c9 k9 fun _ _ _ _ _ _ us hl => match us, hl with | [_, _], _ => rfl
  have D10 := df_mk (st := sWays) (ps := ["ones", "zeros"]) X G a10 l10 c10 k10 fun _ _ _ _ _ _ us hl => match us, hl with | [_, _], _ => rfl
  have D11 := df_mk (st := sAllIn) (ps := ["pairs"]) X G a11 l11 c11 k11 fun _ _ _ _ _ _ us hl => match us, hl with | [_], _ => rfl
  have D12 := df_mk (st := sBehind) (ps := ["word"]) X G a12 l12 c12 k12 fun _ _ _ _ _ _ us hl => match us, hl with | [_], _ => rfl
  have D13 := df_mk (st := sAllWords) (ps := ["pairs"]) X G a13 l13 c13 k13 fun _ _ _ _ _ _ us hl => match us, hl with | [_], _ => rfl
  have D14 := df_mk (st := sNameIn) (ps := ["word"]) X G a14 l14 c14 k14 fun _ _ _ _ _ _ us hl => match us, hl with | [_], _ => rfl
  have D15 := df_mk (st := sCommon) (ps := ["one", "other"]) X G a15 l15 c15 k15 fun _ _ _ _ _ _ us hl => match us, hl with | [_, _], _ => rfl
  have D16 := df_mk (st := sApart) (ps := ["number"]) X G a16 l16 c16 k16 fun _ _ _ _ _ _ us hl => match us, hl with | [_], _ => rfl
  have D17 := df_mk (st := sPlace) (ps := ["pairs"]) X G a17 l17 c17 k17 fun _ _ _ _ _ _ us hl => match us, hl with | [_], _ => rfl
  have D18 := df_mk (st := sTie) (ps := ["pairs"]) X G a18 l18 c18 k18 fun _ _ _ _ _ _ us hl => match us, hl with | [_], _ => rfl
  have D19 := df_mk (st := sNameOf) (ps := ["word"]) X G a19 l19 c19 k19 fun _ _ _ _ _ _ us hl => match us, hl with | [_], _ => rfl
  have D20 := df_mk (st := sHow) (ps := ["pairs"]) X G a20 l20 c20 k20 fun _ _ _ _ _ _ us hl => match us, hl with | [_], _ => rfl
  have D21 := df_mk (st := sAllTrees) (ps := ["pairs"]) X G a21 l21 c21 k21 fun _ _ _ _ _ _ us hl => match us, hl with | [_], _ => rfl
  have D22 := df_mk (st := sGrove) (ps := ["_law_script"]) X G a22 l22 c22 k22 fun _ _ _ _ _ _ us hl => match us, hl with | [_], _ => rfl
  have D23 := df_mk (st := sFell) (ps := ["_law_grove_here", "_law_many"]) X G a23 l23 c23 k23 fun _ _ _ _ _ _ us hl => match us, hl with | [_, _], _ => rfl
  have D24 := df_mk (st := sOneOf) (ps := ["_law_grove_here", "_law_some"]) X G a24 l24 c24 k24 fun _ _ _ _ _ _ us hl => match us, hl with | [_, _], _ => rfl
  have D25 := df_mk (st := sLAll) (ps := ["_law_pairs"]) X G a25 l25 c25 k25 fun _ _ _ _ _ _ us hl => match us, hl with | [_], _ => rfl
  have D26 := df_mk (st := sLTurned) (ps := ["_law_word"]) X G a26 l26 c26 k26 fun _ _ _ _ _ _ us hl => match us, hl with | [_], _ => rfl
  have D27 := df_mk (st := sLTurns) (ps := ["_law_word"]) X G a27 l27 c27 k27 fun _ _ _ _ _ _ us hl => match us, hl with | [_], _ => rfl
  have D28 := df_mk (st := sLLots) (ps := ["_law_words"]) X G a28 l28 c28 k28 fun _ _ _ _ _ _ us hl => match us, hl with | [_], _ => rfl
  have FN : FunNW K f5 _ := ⟨⟨oc5, od5, .ref T, kV5, dc5, pm5, an5, cd5, ct5, sl5, rfl, l5, c5, .inr ⟨by simp, T, _, vT.toList, nT, rfl, lT, rfl, vvT⟩, .inl rfl⟩, k5⟩
  obtain ⟨ds, vds, bds⟩ := binds_needword FN
  have G0 : FnOk P w K mg base CX0 1 f0 _ ["value"] spInteger := ok_integer D0 B
  have G1 : FnOk P w K mg base CX0 2 f1 _ ["value", "least", "most"] spWithin := ok_within D1 D0 G0
  have G3 : FnOk P w K mg base CX0 3 f3 _ ["value", "part", "least", "most"] spNeedNum := ok_neednum D3 D1 G1
  have G2 : FnOk P w K mg base CX0 1 f2 _ ["value"] spSigns := ok_signs D2 B
  have G4 : FnOk P w K mg base CX0 2 f4 _ ["value"] spIsWord := ok_isword D4 B D2 G2
  have G5 : FnOk P w K mg base CX0 3 f5 _ ["value", "part"] spNeedWord := ok_needword FN D4 G4
  have G6 : FnOk P w K mg base CX0 1 f6 _ ["word"] spFirst := ok_first D6 B
  have G7 : FnOk P w K mg base CX0 2 f7 _ ["word"] spTurned := ok_turned D7 D6 G6
  have G8 : FnOk P w K mg base CX0 3 f8 _ ["word"] spTurns := ok_turns D8 D7 G7
  have G9 : FnOk P w K mg base CX0 1 f9 _ ["many", "some"] spLots := ok_lots D9 B
  have G10 : FnOk P w K mg base CX0 2 f10 _ ["ones", "zeros"] spWays := ok_ways D10 D9 G9
  have G11 : FnOk P w K mg base CX0 3 f11 _ ["pairs"] spAllIn := ok_allin D11 D10 G10
  have G12 : FnOk P w K mg base CX0 1 f12 _ ["word"] spBehind := ok_behind D12 B
  have G13 : FnOk P w K mg base CX0 4 f13 _ ["pairs"] spAllWords := ok_allwords D13 B D3 G3 D12 G12
  have G14 : FnOk P w K mg base CX0 4 f14 _ ["word"] spNameIn := ok_namein D14 B D8 G8
  have G15 : FnOk P w K mg base CX0 1 f15 _ ["one", "other"] spCommon := ok_common D15
  have G16 : FnOk P w K mg base CX0 2 f16 _ ["number"] spApart := ok_apart D16 B D15 G15
  have G17 : FnOk P w K mg base CX0 3 f17 _ ["pairs"] spPlace := ok_place D17 B D16 G16 D9 G9
  have G18 : FnOk P w K mg base CX0 4 f18 _ ["pairs"] spTie := ok_tie D18 D11 G11
  have G19 : FnOk P w K mg base CX0 5 f19 _ ["word"] spNameOf := ok_nameof D19 (PySem.W.mg_of X G a5) k5 vds bds G5 D14 G14
  have G20 : FnOk P w K mg base CX0 5 f20 _ ["pairs"] spHow := ok_how D20 B D3 G3 D17 G17 D18 G18 D11 G11
  have G21 : FnOk P w K mg base CX0 5 f21 _ ["pairs"] spAllTrees := ok_alltrees D21 B D3 G3 D13 G13 D8 G8
  have G22 : FnOk P w K mg base CX0 1 f22 _ ["_law_script"] (spGrove K) := ok_grove D22 B
  have G23 : FnOk P w K mg base CX0 1 f23 _ ["_law_grove_here", "_law_many"] spFell := ok_fell D23 B
  have G24 : FnOk P w K mg base CX0 2 f24 _ ["_law_grove_here", "_law_some"] (spOneOf K) := ok_oneof D24 B D23 G23
  have G25 : FnOk P w K mg base CX0 1 f25 _ ["_law_pairs"] spLAll := ok_lall D25 B hs
  have G26 : FnOk P w K mg base CX0 1 f26 _ ["_law_word"] spTurned := ok_lturned D26
  have G27 : FnOk P w K mg base CX0 2 f27 _ ["_law_word"] spTurns := ok_lturns D27 D26 G26
  have G28 : FnOk P w K mg base CX0 3 f28 _ ["_law_words"] (spLLots K) := ok_llots D28 B D27 G27
  have FL := fun_mk (st := sLaw) l29 c29 k29
  refine call_under (N := NLaw) (ps := ["_law_script"]) (vs := [V.ref a]) FL scLaw (k := 5) ⟨rfl, by decide, by decide⟩ e0 (.of_eq rfl) (.cons rfl .nil) rfl fun cdv => ?_
  exact law_body B D22 G22 D24 G24 D25 G25 D28 G28 D21 G21 kb_mk D20 G20 D19 G19 D23 G23 D27 G27 hs h7 h9 hS hlen
end K15
namespace K15
theorem k_good : ∀ n, 1 ≤ n → n ≤ 7 → good7 n = true
  | 1, _, _ => k_good1
  | 2, _, _ => k_good2
  | 3, _, _ => k_good3
  | 4, _, _ => k_good4
  | 5, _, _ => k_good5
  | 6, _, _ => k_good6
  | 7, _, _ => k_good7
  | 0, h, _ => absurd h (by decide)
  | n + 8, _, h => absurd h (by omega)
end K15
open PySem PySem.W PyProof.Rows in
set_option maxRecDepth 100000 in
set_option maxHeartbeats 0 in
theorem PySem.Challenge.cw_everyhalf_k15_whole_trees_listed_holds : PySem.Challenge.rw_everyhalf_k15_whole_trees_listed.Holds := by
  w_on; o_law; k_head; (case hw => w_witness2)
  k_fill
  refine K15.walk_at (l := PySem.Challenge.rw_everyhalf_k15_whole_trees_listed) (n := 63) rfl (by decide) rfl (fun w h Y => PySem.W.kIn_of Y) ?F
  case F =>
    intro w mg fa h base s H a ns KX G hmg hlen e0 hS
    refine' K15.all_mk KX G hmg hlen e0 hS K15.k_tab K15.k_good K15.k_good9 ?a0 ?l0 ?c0 ?k0 ?a1 ?l1 ?c1 ?k1 ?a2 ?l2 ?c2 ?k2 ?a3 ?l3 ?c3 ?k3 ?a4 ?l4 ?c4 ?k4 ?a5 ?l5 ?c5 ?k5 ?a6 ?l6 ?c6 ?k6 ?a7 ?l7 ?c7 ?k7 ?a8 ?l8 ?c8 ?k8 ?a9 ?l9 ?c9 ?k9 ?a10 ?l10 ?c10 ?k10 ?a11 ?l11 ?c11 ?k11 ?a12 ?l12 ?c12 ?k12 ?a13 ?l13 ?c13 ?k13 ?a14 ?l14 ?c14 ?k14 ?a15 ?l15 ?c15 ?k15 ?a16 ?l16 ?c16 ?k16 ?a17 ?l17 ?c17 ?k17 ?a18 ?l18 ?c18 ?k18 ?a19 ?l19 ?c19 ?k19 ?a20 ?l20 ?c20 ?k20 ?a21 ?l21 ?c21 ?k21 ?a22 ?l22 ?c22 ?k22 ?a23 ?l23 ?c23 ?k23 ?a24 ?l24 ?c24 ?k24 ?a25 ?l25 ?c25 ?k25 ?a26 ?l26 ?c26 ?k26 ?a27 ?l27 ?c27 ?k27 ?a28 ?l28 ?c28 ?k28 ?a29 ?l29 ?c29 ?k29 ?lT ?vvT ?z0 ?z1 ?z2 ?z3 ?z4 ?z5 ?z6 ?z7 ?z8 ?z9 ?z10 ?z11 ?z12 ?z13 ?z14 ?z15 ?y0 ?y1 ?y2 ?y3
    (case a0 => k_is)
    (case l0 => k_is)
    (case c0 => k_is)
    (case k0 => k_is)
    (case a1 => k_is)
    (case l1 => k_is)
    (case c1 => k_is)
    (case k1 => k_is)
    (case a2 => k_is)
    (case l2 => k_is)
    (case c2 => k_is)
    (case k2 => k_is)
    (case a3 => k_is)
    (case l3 => k_is)
    (case c3 => k_is)
    (case k3 => k_is)
    (case a4 => k_is)
    (case l4 => k_is)
    (case c4 => k_is)
    (case k4 => k_is)
    (case a5 => k_is)
    (case l5 => k_is)
    (case c5 => k_is)
    (case k5 => k_is)
    (case a6 => k_is)
    (case l6 => k_is)
    (case c6 => k_is)
    (case k6 => k_is)
    (case a7 => k_is)
    (case l7 => k_is)
    (case c7 => k_is)
    (case k7 => k_is)
    (case a8 => k_is)
    (case l8 => k_is)
    (case c8 => k_is)
    (case k8 => k_is)
    (case a9 => k_is)
    (case l9 => k_is)
    (case c9 => k_is)
    (case k9 => k_is)
    (case a10 => k_is)
    (case l10 => k_is)
    (case c10 => k_is)
    (case k10 => k_is)
    (case a11 => k_is)
    (case l11 => k_is)
    (case c11 => k_is)
    (case k11 => k_is)
    (case a12 => k_is)
    (case l12 => k_is)
    (case c12 => k_is)
    (case k12 => k_is)
    (case a13 => k_is)
    (case l13 => k_is)
    (case c13 => k_is)
    (case k13 => k_is)
    (case a14 => k_is)
    (case l14 => k_is)
    (case c14 => k_is)
    (case k14 => k_is)
    (case a15 => k_is)
    (case l15 => k_is)
    (case c15 => k_is)
    (case k15 => k_is)
    (case a16 => k_is)
    (case l16 => k_is)
    (case c16 => k_is)
    (case k16 => k_is)
    (case a17 => k_is)
    (case l17 => k_is)
    (case c17 => k_is)
    (case k17 => k_is)
    (case a18 => k_is)
    (case l18 => k_is)
    (case c18 => k_is)
    (case k18 => k_is)
    (case a19 => k_is)
    (case l19 => k_is)
    (case c19 => k_is)
    (case k19 => k_is)
    (case a20 => k_is)
    (case l20 => k_is)
    (case c20 => k_is)
    (case k20 => k_is)
    (case a21 => k_is)
    (case l21 => k_is)
    (case c21 => k_is)
    (case k21 => k_is)
    (case a22 => k_is)
    (case l22 => k_is)
    (case c22 => k_is)
    (case k22 => k_is)
    (case a23 => k_is)
    (case l23 => k_is)
    (case c23 => k_is)
    (case k23 => k_is)
    (case a24 => k_is)
    (case l24 => k_is)
    (case c24 => k_is)
    (case k24 => k_is)
    (case a25 => k_is)
    (case l25 => k_is)
    (case c25 => k_is)
    (case k25 => k_is)
    (case a26 => k_is)
    (case l26 => k_is)
    (case c26 => k_is)
    (case k26 => k_is)
    (case a27 => k_is)
    (case l27 => k_is)
    (case c27 => k_is)
    (case k27 => k_is)
    (case a28 => k_is)
    (case l28 => k_is)
    (case c28 => k_is)
    (case k28 => k_is)
    (case a29 => k_is)
    (case l29 => k_is)
    (case c29 => k_is)
    (case k29 => k_is)
    (case lT => k_is)
    (case vvT => exact .cons ⟨_, rfl⟩ .nil)
    (case z0 => k_is)
    (case z1 => k_is)
    (case z2 => k_is)
    (case z3 => k_is)
    (case z4 => k_is)
    (case z5 => k_is)
    (case z6 => k_is)
    (case z7 => k_is)
    (case z8 => k_is)
    (case z9 => k_is)
    (case z10 => k_is)
    (case z11 => k_is)
    (case z12 => k_is)
    (case z13 => k_is)
    (case z14 => k_is)
    (case z15 => k_is)
    (case y0 => k_is)
    (case y1 => k_is)
    (case y2 => k_is)
    (case y3 => k_is)
