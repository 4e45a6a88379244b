import PyProof.Rows.All
import Wide.All
import OpenK.AllK
import Wide.FinOn
import HandS.ForMost
import HandS.ForExc
import HandS.TupAny
import HandS.TupMul
import HandS.Codes
import HandS.IsInst
import HandS.Conv
import HandS.Deep
import HandS.Evl
import HandS.Style
import HandS.Lambda
import HandS.EndTab
import HandS.HotCalls
import HandS.ExcIs
import KE.KTupSum
import KE.GoesMore
import KE.GoesEnum
import PySem.Challenge.RW_turnedlogs_k18_whole_rules_for_sizes
set_option Elab.async false
set_option linter.all false
set_option maxRecDepth 100000
set_option maxHeartbeats 4000000
/-! Turned logs: the plain functions, and that the law's own step is the program's. -/
namespace Tlg
structure Rule where
  size : Int
  early : Bool
  daily : Bool
  empty : Bool
  keep : Int
  pages : Option Int
  factor : Int
  deriving DecidableEq, Repr
inductive Evt where
  | d | a | b
  deriving DecidableEq, Repr
def Evt.more : Evt → Int
  | .d => 0
  | .a => 1
  | .b => 2
structure Rule.Ok (r : Rule) : Prop where
  s1 : 1 ≤ r.size
  s3 : r.size ≤ 3
  k0 : 0 ≤ r.keep
  k3 : r.keep ≤ 3
  p : ∀ p, r.pages = some p → 1 ≤ p ∧ p ≤ 12
  f1 : 1 ≤ r.factor
  f3 : r.factor ≤ 3
def hd (l : List Int) : Int := l.headD 0
def pagesOf (r : Rule) (l : List Int) : Int := (l.take 2).sum + ((l.drop 2).map fun s => (s + r.factor - 1) / r.factor).sum
def turned (r : Rule) (l : List Int) : List Int := (0 :: l).take (r.keep + 1).toNat
/-- the test of the while -/
def over (r : Rule) (l : List Int) : Bool := match r.pages with
  | none => false
  | some p => decide (1 < l.length) && decide (p < pagesOf r l)
def withinN (r : Rule) : Nat → List Int → List Int
  | 0, l => l
  | n + 1, l => if over r l = true then withinN r n l.dropLast else l
def within (r : Rule) (l : List Int) : List Int := withinN r l.length l
theorem over_len {r : Rule} {l : List Int} (h : over r l = true) : 1 < l.length := by
  unfold over at h
  split at h
  · cases h
  · simp only [Bool.and_eq_true, decide_eq_true_eq] at h
    exact h.1
theorem withinN_more (r : Rule) : ∀ (n m : Nat) (l : List Int), l.length ≤ n → l.length ≤ m → withinN r n l = withinN r m l
  | 0, 0, _, _, _ => rfl
  | 0, m + 1, l, h, _ => by
    have e : l = [] := List.length_eq_zero_iff.mp (by omega)
    subst e
    have : over r [] = false := by
      cases q : over r [] with
      | false => rfl
      | true => exact absurd (over_len q) (by simp)
    simp [withinN, this]
  | n + 1, 0, l, _, h => by
    have e : l = [] := List.length_eq_zero_iff.mp (by omega)
    subst e
    have : over r [] = false := by
      cases q : over r [] with
      | false => rfl
      | true => exact absurd (over_len q) (by simp)
    simp [withinN, this]
  | n + 1, m + 1, l, h1, h2 => by
    unfold withinN
    split
    · have := withinN_more r n m l.dropLast (by rw [List.length_dropLast]; omega) (by rw [List.length_dropLast]; omega)
      exact this
    · rfl
theorem within_step {r : Rule} {l : List Int} (h : over r l = true) : within r l = within r l.dropLast := by
  have h1 := over_len h
  unfold within
  obtain ⟨n, hn⟩ : ∃ n, l.length = n + 1 := ⟨l.length - 1, by omega⟩
  rw [hn]
  show (if over r l = true then withinN r n l.dropLast else l) = _
  rw [if_pos h]
  exact withinN_more r _ _ _ (by rw [List.length_dropLast]; omega) (Nat.le_refl _)
theorem within_stop {r : Rule} {l : List Int} (h : over r l = false) : within r l = l := by
  unfold within
  cases hn : l.length with
  | zero => rfl
  | succ n =>
    show (if over r l = true then withinN r n l.dropLast else l) = _
    rw [h]
    simp
/-- within gives a first part that is not empty -/
theorem within_take (r : Rule) : ∀ (n : Nat) (l : List Int), l.length = n → l ≠ [] → ∃ k, 1 ≤ k ∧ within r l = l.take k
  | 0, l, h, hne => absurd (List.length_eq_zero_iff.mp h) hne
  | n + 1, l, h, hne => by
    cases q : over r l with
    | false => exact ⟨l.length, by omega, by rw [within_stop q, List.take_length]⟩
    | true =>
      have h1 := over_len q
      have hl : l.dropLast.length = n := by rw [List.length_dropLast]; omega
      have hne2 : l.dropLast ≠ [] := fun e => by
        rw [e] at hl
        simp at hl
        omega
      obtain ⟨k, hk, e⟩ := within_take r n l.dropLast hl hne2
      refine ⟨min k (l.length - 1), by omega, ?_⟩
      rw [within_step q, e, List.dropLast_eq_take, List.take_take]
def moved (r : Rule) (l : List Int) (e : Evt) : List Int :=
  match e with
  | .d => within r (if (r.daily && (r.empty || decide (0 < hd l))) = true then turned r l else l)
  | e =>
    let n := e.more
    let l1 := if (r.early && (decide (0 < hd l) && decide (r.size < hd l + n))) = true then turned r l else l
    let l2 := (hd l1 + n) :: l1.tail
    let l3 := if (!r.early && decide (r.size ≤ hd l2)) = true then turned r l2 else l2
    within r l3
def walkFrom (r : Rule) : List Int → List Evt → List (List Int)
  | _, [] => []
  | l, e :: es => moved r l e :: walkFrom r (moved r l e) es
def behindFrom (r : Rule) (l : List Int) (es : List Evt) : List Int := es.foldl (moved r) l
def behind (r : Rule) (es : List Evt) : List Int := behindFrom r [0] es
theorem last_walk (r : Rule) : ∀ (l : List Int) (es : List Evt), (l :: walkFrom r l es).getLast? = some (behindFrom r l es)
  | l, [] => rfl
  | l, e :: es => by
    show (l :: moved r l e :: walkFrom r (moved r l e) es).getLast? = _
    rw [List.getLast?_cons_cons]
    exact last_walk r (moved r l e) es
theorem walk_length (r : Rule) : ∀ (l : List Int) (es : List Evt), (walkFrom r l es).length = es.length
  | _, [] => rfl
  | l, e :: es => by
    show (walkFrom r (moved r l e) es).length + 1 = _
    rw [walk_length r _ es]
    rfl
/-- what sizes are behind any row -/
structure Good (r : Rule) (l : List Int) : Prop where
  ne : l ≠ []
  len : (l.length : Int) ≤ r.keep + 1
  lo : ∀ x ∈ l, 0 ≤ x
  hi : ∀ x ∈ l, x ≤ 4
  h1 : r.early = true → hd l ≤ 3
  h2 : r.early = false → hd l < r.size ∨ hd l = 0
theorem hd_mem {l : List Int} (h : l ≠ []) : hd l ∈ l := by
  cases l with
  | nil => exact absurd rfl h
  | cons x xs => exact List.mem_cons_self
theorem hd_take {l : List Int} {k : Nat} (hk : 1 ≤ k) : hd (l.take k) = hd l := by
  cases l with
  | nil => simp [hd]
  | cons x xs =>
    obtain ⟨m, rfl⟩ : ∃ m, k = m + 1 := ⟨k - 1, by omega⟩
    rfl
theorem Good.first {r : Rule} (o : r.Ok) : Good r [0] where
  ne := by simp
  len := by have := o.k0; simp; omega
  lo := by simp
  hi := by simp
  h1 := by simp [hd]
  h2 := by simp [hd]
/-- a part cut off -/
theorem Good.cut {r : Rule} {l : List Int} {k : Nat} (g : Good r l) (hk : 1 ≤ k) : Good r (l.take k) where
  ne := fun e => by
    rcases List.take_eq_nil_iff.mp e with h | h
    · omega
    · exact g.ne h
  len := by
    have := g.len
    rw [List.length_take]
    omega
  lo := fun x hx => g.lo x (List.mem_of_mem_take hx)
  hi := fun x hx => g.hi x (List.mem_of_mem_take hx)
  h1 := by rw [hd_take hk]; exact g.h1
  h2 := by rw [hd_take hk]; exact g.h2
theorem Good.within {r : Rule} {l : List Int} (g : Good r l) : Good r (Tlg.within r l) := by
  obtain ⟨k, hk, e⟩ := within_take r l.length l rfl g.ne
  rw [e]
  exact g.cut hk
theorem turned_len {r : Rule} (o : r.Ok) (l : List Int) : ((turned r l).length : Int) ≤ r.keep + 1 := by
  have := o.k0
  unfold turned
  rw [List.length_take]
  omega
theorem turned_eq {r : Rule} (o : r.Ok) (l : List Int) : turned r l = 0 :: l.take r.keep.toNat := by
  have := o.k0
  unfold turned
  obtain ⟨m, hm⟩ : ∃ m, (r.keep + 1).toNat = m + 1 := ⟨r.keep.toNat, by omega⟩
  rw [hm, List.take_succ_cons]
  congr 2
  omega
theorem Good.turned {r : Rule} {l : List Int} (o : r.Ok) (hlo : ∀ x ∈ l, 0 ≤ x) (hhi : ∀ x ∈ l, x ≤ 4) : Good r (Tlg.turned r l) where
  ne := by rw [turned_eq o]; simp
  len := turned_len o l
  lo := by
    rw [turned_eq o]
    intro x hx
    rcases List.mem_cons.mp hx with rfl | h
    · exact Int.le_refl _
    · exact hlo x (List.mem_of_mem_take h)
  hi := by
    rw [turned_eq o]
    intro x hx
    rcases List.mem_cons.mp hx with rfl | h
    · decide
    · exact hhi x (List.mem_of_mem_take h)
  h1 := by rw [turned_eq o]; intro _; show (0 : Int) ≤ 3; decide
  h2 := by rw [turned_eq o]; intro _; exact .inr rfl
theorem Evt.more_cases (e : Evt) (h : e ≠ .d) : e.more = 1 ∨ e.more = 2 := by
  cases e with
  | d => exact absurd rfl h
  | a => exact .inl rfl
  | b => exact .inr rfl
/-- the part of a write ahead of within -/
def wrote (r : Rule) (l : List Int) (n : Int) : List Int :=
  let l1 := if (r.early && (decide (0 < hd l) && decide (r.size < hd l + n))) = true then turned r l else l
  let l2 := (hd l1 + n) :: l1.tail
  if (!r.early && decide (r.size ≤ hd l2)) = true then turned r l2 else l2
theorem moved_w (r : Rule) (l : List Int) (e : Evt) (h : e ≠ .d) : moved r l e = within r (wrote r l e.more) := by
  cases e with
  | d => exact absurd rfl h
  | a => rfl
  | b => rfl
theorem head_eq {l : List Int} (h : l ≠ []) : l = hd l :: l.tail := by
  cases l with
  | nil => exact absurd rfl h
  | cons x xs => rfl
theorem Good.wrote {r : Rule} {l : List Int} {n : Int} (o : r.Ok) (g : Good r l) (hn : n = 1 ∨ n = 2) : Good r (Tlg.wrote r l n) := by
  have s1 := o.s1
  have s3 := o.s3
  -- the first turn
  have key : ∀ l1 : List Int, Good r l1 → (r.early = true → hd l1 = 0 ∨ hd l1 + n ≤ r.size) → Good r (if (!r.early && decide (r.size ≤ hd ((hd l1 + n) :: l1.tail))) = true then Tlg.turned r ((hd l1 + n) :: l1.tail) else (hd l1 + n) :: l1.tail) := by
    intro l1 g1 he
    have h0 := g1.lo _ (hd_mem g1.ne)
    have lt : ∀ x ∈ l1.tail, x ∈ l1 := fun x hx => List.mem_of_mem_tail hx
    have top : hd l1 + n ≤ 4 := by
      cases hb : r.early with
      | true => rcases he hb with e | e <;> omega
      | false => rcases g1.h2 hb with e | e <;> omega
    have lo2 : ∀ x ∈ (hd l1 + n) :: l1.tail, 0 ≤ x := fun x hx => by
      rcases List.mem_cons.mp hx with rfl | h
      · omega
      · exact g1.lo x (lt x h)
    have hi2 : ∀ x ∈ (hd l1 + n) :: l1.tail, x ≤ 4 := fun x hx => by
      rcases List.mem_cons.mp hx with rfl | h
      · exact top
      · exact g1.hi x (lt x h)
    split
    · exact Good.turned o lo2 hi2
    · rename_i hq
      refine ⟨by simp, ?_, lo2, hi2, fun hb => ?_, fun hb => ?_⟩
      · have := g1.len
        have h1 := congrArg List.length (head_eq g1.ne)
        simp only [List.length_cons] at h1 ⊢
        omega
      · show hd l1 + n ≤ 3
        rcases he hb with e | e <;> omega
      · left
        show hd l1 + n < r.size
        rw [hb] at hq
        have hq' : ¬ (decide (r.size ≤ hd l1 + n)) = true := hq
        simp only [decide_eq_true_eq] at hq'
        omega
  unfold Tlg.wrote
  refine key _ ?_ fun hb => ?_
  · split
    · exact Good.turned o g.lo g.hi
    · exact g
  · split
    · left
      rw [turned_eq o]
      rfl
    · rename_i hq
      rw [hb] at hq
      have hq' : ¬ ((decide (0 < hd l) && decide (r.size < hd l + n))) = true := hq
      simp only [Bool.and_eq_true, decide_eq_true_eq] at hq'
      have h0 := g.lo _ (hd_mem g.ne)
      omega
theorem Good.moved {r : Rule} {l : List Int} (o : r.Ok) (g : Good r l) (e : Evt) : Good r (Tlg.moved r l e) := by
  by_cases h : e = .d
  · subst h
    unfold Tlg.moved
    refine Good.within ?_
    split
    · exact Good.turned o g.lo g.hi
    · exact g
  · rw [moved_w r l e h]
    exact (Good.wrote o g (e.more_cases h)).within
theorem Good.behindFrom {r : Rule} (o : r.Ok) : ∀ (es : List Evt) (l : List Int), Good r l → Good r (Tlg.behindFrom r l es)
  | [], _, g => g
  | e :: es, l, g => Good.behindFrom o es (Tlg.moved r l e) (g.moved o e)
theorem Good.behind {r : Rule} (o : r.Ok) (es : List Evt) : Good r (Tlg.behind r es) := Good.behindFrom o es [0] (Good.first o)
theorem Good.walk {r : Rule} (o : r.Ok) : ∀ (es : List Evt) (l : List Int), Good r l → ∀ x ∈ walkFrom r l es, Good r x
  | [], _, _, x, hx => by cases hx
  | e :: es, l, g, x, hx => by
    rcases List.mem_cons.mp hx with rfl | h
    · exact g.moved o e
    · exact Good.walk o es _ (g.moved o e) x h
/-! ### the law's step -/
def lawAdd (r : Rule) (l : List Int) (n : Int) : List Int :=
  let l1 := if (decide (n = 0) && (r.daily && (r.empty || decide (0 < hd l)))) = true then 0 :: l else l
  let l2 := if (decide (0 < n) && (r.early && (decide (0 < hd l1) && decide (r.size < hd l1 + n)))) = true then 0 :: l1 else l1
  let l3 := (hd l2 + n) :: l2.tail
  if (decide (0 < n) && (!r.early && decide (r.size ≤ hd l3))) = true then 0 :: l3 else l3
def lawStep (r : Rule) (l : List Int) (e : Evt) : List Int := within r ((lawAdd r l e.more).take (r.keep + 1).toNat)
theorem take_all {r : Rule} {l : List Int} (g : (l.length : Int) ≤ r.keep + 1) : l.take (r.keep + 1).toNat = l := List.take_of_length_le (by omega)
theorem lawStep_eq {r : Rule} {l : List Int} (o : r.Ok) (g : Good r l) (e : Evt) : lawStep r l e = moved r l e := by
  have hl := g.len
  have hne := head_eq g.ne
  by_cases h : e = .d
  · subst h
    unfold lawStep moved
    congr 1
    show (lawAdd r l 0).take (r.keep + 1).toNat = _
    unfold lawAdd
    simp only [Int.lt_irrefl, decide_false, Bool.false_and, Bool.false_eq_true, if_false, decide_true, Bool.true_and]
    by_cases hc : (r.daily && (r.empty || decide (0 < hd l))) = true
    · rw [if_pos hc, if_pos hc]
      rfl
    · rw [if_neg hc, if_neg hc, Int.add_zero, ← hne]
      exact take_all hl
  · rw [moved_w r l e h]
    unfold lawStep
    congr 1
    have hn := e.more_cases h
    generalize e.more = n at hn
    have n0 : ¬ n = 0 := by omega
    have n1 : 0 < n := by omega
    unfold lawAdd wrote
    simp only [n0, n1, decide_false, decide_true, Bool.false_and, Bool.true_and, Bool.false_eq_true, if_false]
    have k0 := o.k0
    have tk : ∀ (x : Int) (m : List Int), (x :: m).take (r.keep + 1).toNat = x :: m.take r.keep.toNat := fun x m => by
      obtain ⟨j, hj⟩ : ∃ j, (r.keep + 1).toNat = j + 1 := ⟨r.keep.toNat, by omega⟩
      rw [hj, List.take_succ_cons]
      congr 2
      omega
    have tl : l.tail.take r.keep.toNat = l.tail := List.take_of_length_le (by rw [List.length_tail]; omega)
    cases hb : r.early with
    | true =>
      simp only [Bool.true_and, Bool.not_true, Bool.false_and, Bool.false_eq_true, if_false]
      by_cases hc : (decide (0 < hd l) && decide (r.size < hd l + n)) = true
      · rw [if_pos hc, if_pos hc, turned_eq o, tk]
        rfl
      · rw [if_neg hc, if_neg hc, tk, tl]
    | false =>
      simp only [Bool.false_and, Bool.false_eq_true, if_false, Bool.not_false, Bool.true_and]
      by_cases hc : decide (r.size ≤ hd ((hd l + n) :: l.tail)) = true
      · rw [if_pos hc, if_pos hc]
        rfl
      · rw [if_neg hc, if_neg hc, tk, tl]
/-- the law's step, event by event -/
def lawWent (r : Rule) : List Int → List Evt → List (List Int)
  | _, [] => []
  | l, e :: es => lawStep r l e :: lawWent r (lawStep r l e) es
theorem lawWent_eq {r : Rule} (o : r.Ok) : ∀ (es : List Evt) (l : List Int), Good r l → lawWent r l es = walkFrom r l es
  | [], _, _ => rfl
  | e :: es, l, g => by
    show lawStep r l e :: lawWent r (lawStep r l e) es = moved r l e :: walkFrom r (moved r l e) es
    rw [lawStep_eq o g e, lawWent_eq o es _ (g.moved o e)]
end Tlg
/-! What readings evaluate to, as data (PyData): values are told by what they hold, whatever stands beside them. -/
namespace L2
open PySem PySem.Spec PyProof.Rows
abbrev PD := PyData
section
variable {K : PySem.W.Frag} {H H' : Hp}
theorem DpAll.length : ∀ {vs : List V} {ds : List PD}, DpAll K H vs ds → vs.length = ds.length
  | _, _, .nil => rfl
  | _, _, .cons _ t => congrArg (· + 1) (DpAll.length t)
theorem DpAll.get : ∀ {vs : List V} {ds : List PD} {i : Nat} {d : PD}, DpAll K H vs ds → ds[i]? = some d → ∃ v, vs[i]? = some v ∧ Dp K H v d
  | _, _, _, _, .nil, e => by simp at e
  | _, _, 0, _, .cons h _, e => by simp at e; subst e; exact ⟨_, rfl, h⟩
  | _, _, i + 1, _, .cons _ t, e => by
    obtain ⟨v, h1, h2⟩ := DpAll.get (i := i) t (by simpa using e)
    exact ⟨v, by simpa using h1, h2⟩
theorem DpAll.getV {vs : List V} {ds : List PD} {i : Nat} {v : V} (h : DpAll K H vs ds) (e : vs[i]? = some v) : ∃ d, ds[i]? = some d ∧ Dp K H v d := by
  have hl := h.length
  have hi : i < ds.length := by
    have := (List.getElem?_eq_some_iff.mp e).1
    omega
  obtain ⟨v', h1, h2⟩ := h.get (List.getElem?_eq_getElem hi)
  rw [e] at h1
  cases h1
  exact ⟨_, List.getElem?_eq_getElem hi, h2⟩
theorem DpAll.append : ∀ {vs ws : List V} {ds es : List PD}, DpAll K H vs ds → DpAll K H ws es → DpAll K H (vs ++ ws) (ds ++ es)
  | _, _, _, _, .nil, h => h
  | _, _, _, _, .cons h t, h2 => .cons h (DpAll.append t h2)
theorem DpAll.one {v : V} {d : PD} (h : Dp K H v d) : DpAll K H [v] [d] := .cons h .nil
theorem DpAll.take : ∀ {vs : List V} {ds : List PD} (n : Nat), DpAll K H vs ds → DpAll K H (vs.take n) (ds.take n)
  | _, _, 0, _ => .nil
  | _, _, _ + 1, .nil => .nil
  | _, _, n + 1, .cons h t => .cons h (DpAll.take n t)
theorem DpAll.drop : ∀ {vs : List V} {ds : List PD} (n : Nat), DpAll K H vs ds → DpAll K H (vs.drop n) (ds.drop n)
  | _, _, 0, h => h
  | _, _, _ + 1, .nil => .nil
  | _, _, n + 1, .cons _ t => DpAll.drop n t
theorem DpAll.reverse : ∀ {vs : List V} {ds : List PD}, DpAll K H vs ds → DpAll K H vs.reverse ds.reverse
  | _, _, .nil => .nil
  | _, _, .cons h t => by
    rw [List.reverse_cons, List.reverse_cons]
    exact (DpAll.reverse t).append (.one h)
end
end L2
namespace Tlg
open PySem PySem.Spec PyProof.Rows L2
open Evl (Ex EvT EvO ex_l ex_t)
/-! ### data in a growing heap -/
mutual
theorem dp_mono {K : PySem.W.Frag} {H H' : Hp} (e : Ex H H') : ∀ (d : PD) (v : V), Dp K H v d → Dp K H' v d
  | .none, _, h => by cases h; exact .non
  | .bool _, _, h => by cases h; exact .bl _
  | .int _, _, h => by cases h; exact .int _
  | .str _, _, h => by cases h; exact .str _
  | .list ds, _, h => by
    cases h with
    | lst hs ha => exact .lst (ex_l e hs) (dpa_mono e ds _ ha)
  | .tuple ds, _, h => by
    cases h with
    | tup hs ha => exact .tup (ex_t e hs) (dpa_mono e ds _ ha)
  | .dict _, _, h => by cases h
theorem dpa_mono {K : PySem.W.Frag} {H H' : Hp} (e : Ex H H') : ∀ (ds : List PD) (vs : List V), DpAll K H vs ds → DpAll K H' vs ds
  | [], _, h => by cases h; exact .nil
  | d :: ds, _, h => by
    cases h with
    | cons h1 h2 => exact .cons (dp_mono e d _ h1) (dpa_mono e ds _ h2)
end
section
variable {K : PySem.W.Frag} {H H' : Hp}
theorem Dpm (h : Dp K H v d) (e : Ex H H') : Dp K H' v d := dp_mono e d v h
theorem Dpam {vs : List V} {ds : List PD} (h : DpAll K H vs ds) (e : Ex H H') : DpAll K H' vs ds := dpa_mono e ds vs h
theorem dpa_ints {vs : List V} : ∀ {ns : List Int}, DpAll K H vs (ns.map PyData.int) → vs = ns.map V.int := by
  intro ns
  induction ns generalizing vs with
  | nil => intro h; cases h; rfl
  | cons n ns ih =>
    intro h
    cases h with
    | cons h1 h2 =>
      cases h1
      rw [ih h2]
      rfl
theorem dpa_of_ints : ∀ {ns : List Int}, DpAll K H (ns.map V.int) (ns.map PyData.int)
  | [] => .nil
  | n :: ns => .cons (.int n) dpa_of_ints
theorem dpa_bls {vs : List V} : ∀ {bs : List Bool}, DpAll K H vs (bs.map PyData.bool) → vs = bs.map V.bl := by
  intro bs
  induction bs generalizing vs with
  | nil => intro h; cases h; rfl
  | cons n ns ih =>
    intro h
    cases h with
    | cons h1 h2 =>
      cases h1
      rw [ih h2]
      rfl
theorem dpa_strs {vs : List V} : ∀ {bs : List Str}, DpAll K H vs (bs.map PyData.str) → vs = bs.map V.str := by
  intro bs
  induction bs generalizing vs with
  | nil => intro h; cases h; rfl
  | cons n ns ih =>
    intro h
    cases h with
    | cons h1 h2 =>
      cases h1
      rw [ih h2]
      rfl
theorem dpa_of_strs : ∀ {ns : List Str}, DpAll K H (ns.map V.str) (ns.map PyData.str)
  | [] => .nil
  | n :: ns => .cons (.str n) dpa_of_strs
end
/-! ### data without lists: it stands whatever lists are changed -/
mutual
def tupOnly : PD → Bool
  | .list _ => false
  | .dict _ => false
  | .tuple ds => tupOnlyAll ds
  | _ => true
def tupOnlyAll : List PD → Bool
  | [] => true
  | d :: ds => tupOnly d && tupOnlyAll ds
end
theorem tupOnlyAll_map {α : Type} {f : α → PD} {l : List α} (h : ∀ x ∈ l, tupOnly (f x) = true) : tupOnlyAll (l.map f) = true := by
  induction l with
  | nil => rfl
  | cons x xs ih =>
    show (tupOnly (f x) && tupOnlyAll (xs.map f)) = true
    rw [h x List.mem_cons_self, ih fun y hy => h y (List.mem_cons_of_mem _ hy)]
    rfl
/-- all but the object at a stands, and that is a list, a dict, .. (no tuple) -/
structure ExB (a : Addr) (H H' : Hp) : Prop where
  keep : ∀ b o, b ≠ a → H b = some o → H' b = some o
  nt : ∀ xs, ¬ Rd H a (.tup xs)
theorem ExB.upd {a : Addr} {H : Hp} {xs : List V} {o : HO} (h : H a = some (.lst xs)) : ExB a H (upd H a o) where
  keep := fun b u hb e => by rw [upd_ne hb]; exact e
  nt := fun ys z => by
    rcases z with z | ⟨_, z⟩ <;> (rw [h] at z; cases z)
theorem ExB.ex {a : Addr} {H H1 H2 : Hp} (e : ExB a H H1) (e2 : Ex H1 H2) : ExB a H H2 := ⟨fun b o hb h => e2 b o (e.keep b o hb h), e.nt⟩
theorem ExB.tup {K : PySem.W.Frag} {a b : Addr} {H H' : Hp} {xs : List V} (e : ExB a H H') (h : SqT K H b xs) : SqT K H' b xs := by
  rcases h with h | h
  · have hb : b ≠ a := fun z => e.nt xs (by rw [← z]; exact h)
    rcases h with h | ⟨o, h⟩
    · exact .inl (.inl (e.keep b _ hb h))
    · exact .inl (.inr ⟨o, e.keep b _ hb h⟩)
  · exact .inr h
mutual
theorem dp_b {K : PySem.W.Frag} {H H' : Hp} {a : Addr} (e : ExB a H H') : ∀ (d : PD) (v : V), tupOnly d = true → Dp K H v d → Dp K H' v d
  | .none, _, _, h => by cases h; exact .non
  | .bool _, _, _, h => by cases h; exact .bl _
  | .int _, _, _, h => by cases h; exact .int _
  | .str _, _, _, h => by cases h; exact .str _
  | .list ds, _, t, h => by cases t
  | .tuple ds, _, t, h => by
    cases h with
    | tup hs ha => exact .tup (e.tup hs) (dpa_b e ds _ t ha)
  | .dict _, _, t, _ => by cases t
theorem dpa_b {K : PySem.W.Frag} {H H' : Hp} {a : Addr} (e : ExB a H H') : ∀ (ds : List PD) (vs : List V), tupOnlyAll ds = true → DpAll K H vs ds → DpAll K H' vs ds
  | [], _, _, h => by cases h; exact .nil
  | d :: ds, _, t, h => by
    have t' := Bool.and_eq_true_iff.mp t
    cases h with
    | cons h1 h2 => exact .cons (dp_b e d _ t'.1 h1) (dpa_b e ds _ t'.2 h2)
end
/-! ### what evaluates to what -/
def EvD (K : PySem.W.Frag) (te : TE) (σ : L2.St) (H : Hp) (d : PD) : Prop := ∀ H1, Ex H H1 → ∀ Q : VK, (∀ v H2, Ex H1 H2 → Dp K H2 v d → Q v H2) → te σ H1 Q
def EvS (K : PySem.W.Frag) (ta : TA) (σ : L2.St) (H : Hp) (ds : List PD) : Prop := ∀ H1, Ex H H1 → ∀ Q : List V → Hp → Prop, (∀ vs H2, Ex H1 H2 → DpAll K H2 vs ds → Q vs H2) → ta σ H1 Q
section
variable {K : PySem.W.Frag} {σ : L2.St} {H H' : Hp} {ta tb te tx : TE} {t u : TT} {x y z v : V} {r : R2} {d e f : PD} {ds es : List PD} {tl : TA}
theorem EvD.mono (h : EvD K te σ H d) (e : Ex H H') : EvD K te σ H' d := fun H1 a Q q => h H1 (e.trans a) Q q
theorem EvS.mono (h : EvS K tl σ H ds) (e : Ex H H') : EvS K tl σ H' ds := fun H1 a Q q => h H1 (e.trans a) Q q
theorem EvD.is (h : EvD K te σ H d) (e : d = f) : EvD K te σ H f := e ▸ h
theorem ed_var {i : Nat} (h : σ[i]? = some (some v)) (hd : Dp K H v d) : EvD K (tVar i) σ H d := fun H1 e _ q => ⟨v, h, q v H1 (Ex.refl H1) (Dpm hd e)⟩
theorem ed_c (hd : Dp K H v d) : EvD K (tC v) σ H d := fun H1 e _ q => q v H1 (Ex.refl H1) (Dpm hd e)
theorem ed_int {i : Int} : EvD K (tC (.int i)) σ H (.int i) := ed_c (.int i)
theorem ed_bl {b : Bool} : EvD K (tC (.bl b)) σ H (.bool b) := ed_c (.bl b)
theorem ed_str {s : Str} : EvD K (tC (.str s)) σ H (.str s) := ed_c (.str s)
theorem ed_non : EvD K (tC .non) σ H .none := ed_c .non
theorem es_nil : EvS K tNil σ H [] := fun H1 _ _ q => q [] H1 (Ex.refl H1) .nil
theorem es_cons (h : EvD K te σ H d) (h2 : EvS K tl σ H ds) : EvS K (tCons te tl) σ H (d :: ds) := fun H1 e Q q =>
  h H1 e _ fun v H2 e2 hv => h2 H2 (e.trans e2) _ fun vs H3 e3 hs => q (v :: vs) H3 (e2.trans e3) (.cons (Dpm hv e3) hs)
/-- an operation of two values -/
def RD (K : PySem.W.Frag) (r : R2) (d e f : PD) : Prop := ∀ H v u, Dp K H v d → Dp K H u e → ∀ Q : VK, (∀ z H2, Ex H H2 → Dp K H2 z f → Q z H2) → r v u H Q
theorem ed_op (h1 : EvD K ta σ H d) (h2 : EvD K tb σ H e) (hr : RD K r d e f) : EvD K (tOp r ta tb) σ H f := fun H1 a Q q =>
  h1 H1 a _ fun v H2 e2 hv => h2 H2 (a.trans e2) _ fun u H3 e3 hu => hr H3 v u (Dpm hv e3) hu Q fun z H4 e4 hz => q z H4 ((e2.trans e3).trans e4) hz
theorem rd_I {C : Int → Int → Prop} {g : Int → Int → Int} {i j : Int} (hc : C i j) : RD K (rI C fun i j => .int (g i j)) (.int i) (.int j) (.int (g i j)) := fun H v u hv hu Q q => by
  cases hv; cases hu
  exact ⟨i, j, rfl, rfl, hc, q _ H (Ex.refl H) (.int _)⟩
theorem rd_I0 {g : Int → Int → Int} {i j : Int} : RD K (rI0 fun i j => .int (g i j)) (.int i) (.int j) (.int (g i j)) := fun H v u hv hu Q q => by
  cases hv; cases hu
  exact ⟨i, j, rfl, rfl, q _ H (Ex.refl H) (.int _)⟩
theorem rd_B0 {g : Int → Int → Bool} {i j : Int} : RD K (rI0 fun i j => .bl (g i j)) (.int i) (.int j) (.bool (g i j)) := fun H v u hv hu Q q => by
  cases hv; cases hu
  exact ⟨i, j, rfl, rfl, q _ H (Ex.refl H) (.bl _)⟩
theorem rd_eqI {i j : Int} : RD K rEq (.int i) (.int j) (.bool (decide (i = j))) := fun H v u hv hu Q q => by
  cases hv; cases hu
  refine ⟨rfl, ?_⟩
  have e : decide (V.int i = V.int j) = decide (i = j) := by simp
  rw [e]
  exact q _ H (Ex.refl H) (.bl _)
theorem rd_neI {i j : Int} : RD K rNe (.int i) (.int j) (.bool (!decide (i = j))) := fun H v u hv hu Q q => by
  cases hv; cases hu
  refine ⟨rfl, ?_⟩
  have e : decide (V.int i = V.int j) = decide (i = j) := by simp
  rw [e]
  exact q _ H (Ex.refl H) (.bl _)
theorem rd_eqS {i j : Str} : RD K rEq (.str i) (.str j) (.bool (decide (i = j))) := fun H v u hv hu Q q => by
  cases hv; cases hu
  refine ⟨rfl, ?_⟩
  have e : decide (V.str i = V.str j) = decide (i = j) := by simp
  rw [e]
  exact q _ H (Ex.refl H) (.bl _)
theorem rd_eqD (h1 : SeqAt.shaped d = true) (h2 : SeqAt.shaped e = true) : RD K (rEqD K) d e (.bool (PyData.eqv d e)) := fun H v u hv hu Q q =>
  ⟨d, e, hv, hu, h1, h2, q _ H (Ex.refl H) (.bl _)⟩
theorem rd_neD (h1 : SeqAt.shaped d = true) (h2 : SeqAt.shaped e = true) : RD K (rNeD K) d e (.bool (!PyData.eqv d e)) := fun H v u hv hu Q q =>
  ⟨d, e, hv, hu, h1, h2, q _ H (Ex.refl H) (.bl _)⟩
theorem rd_notInD (h1 : SeqAt.shaped d = true) (h2 : SeqAt.shaped (.list ds) = true) : RD K (rNotInD K) d (.list ds) (.bool (!ds.any fun z => PyData.eqv z d)) := fun H v u hv hu Q q =>
  ⟨d, ds, hv, hu, h1, h2, q _ H (Ex.refl H) (.bl _)⟩
theorem atI_all {vs : List V} {ds : List PD} {i : Int} (h : DpAll K H vs ds) (e : atI ds i = some d) : ∃ v, atI vs i = some v ∧ Dp K H v d := by
  unfold atI at e ⊢
  rw [h.length]
  cases hx : ixN ds.length i with
  | none => rw [hx] at e; cases e
  | some j =>
    rw [hx] at e
    exact h.get e
theorem rd_ixT {i : Int} (h : atI ds i = some d) : RD K (rIxT K) (.tuple ds) (.int i) d := fun H v u hv hu Q q => by
  cases hu
  cases hv with
  | tup hs ha =>
    obtain ⟨z, hz, dz⟩ := atI_all ha h
    exact ⟨_, _, i, z, rfl, rfl, hs, hz, q _ H (Ex.refl H) dz⟩
theorem rd_ixL {i : Int} (h : atI ds i = some d) : RD K (rIxL K) (.list ds) (.int i) d := fun H v u hv hu Q q => by
  cases hu
  cases hv with
  | lst hs ha =>
    obtain ⟨z, hz, dz⟩ := atI_all ha h
    exact ⟨_, _, i, z, rfl, rfl, hs, hz, q _ H (Ex.refl H) dz⟩
theorem rd_ixE {i : Int} (h : atI ds i = some d) : RD K (rIx K) (.tuple ds) (.int i) d := fun H v u hv hu Q q => .inr (.inl (rd_ixT h H v u hv hu Q q))
theorem rd_ixEL {i : Int} (h : atI ds i = some d) : RD K (rIx K) (.list ds) (.int i) d := fun H v u hv hu Q q => .inl (rd_ixL h H v u hv hu Q q)
theorem rd_ixS {s : Str} {i : Int} {c : Nat} (hl : s.length ≤ sizeLine) (h : atI s.cps.toList i = some c) : RD K rIxS (.str s) (.int i) (.str ⟨#[c]⟩) := fun H v u hv hu Q q => by
  cases hu; cases hv
  exact ⟨s, i, c, rfl, rfl, hl, h, q _ H (Ex.refl H) (.str _)⟩
/-- a new tuple, a new list -/
theorem newT {H1 : Hp} {vs : List V} {Q : VK} (ha : DpAll K H1 vs ds) (q : ∀ z H2, Ex H1 H2 → Dp K H2 z (.tuple ds) → Q z H2) : ∀ p, H1 p = none → Q (.ref p) (upd H1 p (.tup vs)) :=
  fun p hp => q _ _ (Ex.new hp) (.tup (.of upd_same) (Dpam ha (Ex.new hp)))
theorem newL {H1 : Hp} {vs : List V} {Q : VK} (ha : DpAll K H1 vs ds) (q : ∀ z H2, Ex H1 H2 → Dp K H2 z (.list ds) → Q z H2) : ∀ p, H1 p = none → Q (.ref p) (upd H1 p (.lst vs)) :=
  fun p hp => q _ _ (Ex.new hp) (.lst (.of upd_same) (Dpam ha (Ex.new hp)))
theorem ed_tup (h : EvS K tl σ H ds) (hl : ds.length ≤ 100000) : EvD K (tTup tl) σ H (.tuple ds) := fun H1 a Q q =>
  h H1 a _ fun vs H2 e2 hs => ⟨Evl.sz_of (by rw [hs.length]; exact hl), newT hs fun z H3 e3 => q z H3 (e2.trans e3)⟩
theorem ed_lst (h : EvS K tl σ H ds) (hl : ds.length ≤ 100000) : EvD K (tLst tl) σ H (.list ds) := fun H1 a Q q =>
  h H1 a _ fun vs H2 e2 hs => ⟨Evl.sz_of (by rw [hs.length]; exact hl), newL hs fun z H3 e3 => q z H3 (e2.trans e3)⟩
theorem rd_catA (hl : ds.length + es.length ≤ 100000) : RD K (rCatA K) (.tuple ds) (.tuple es) (.tuple (ds ++ es)) := fun H v u hv hu Q q => by
  cases hv with
  | @tup a xs _ hs ha =>
    cases hu with
    | @tup b ys _ hs2 ha2 =>
      have l1 := ha.length
      have l2 := ha2.length
      refine ⟨a, b, xs, ys, rfl, rfl, hs, hs2, Evl.sz_of (by omega), fun e => ?_, fun _ e => ?_, fun _ _ => newT (ha.append ha2) q⟩
      · have : ds = [] := List.length_eq_zero_iff.mp (by rw [← l1, e]; rfl)
        subst this
        exact q _ H (Ex.refl H) (.tup hs2 ha2)
      · have : es = [] := List.length_eq_zero_iff.mp (by rw [← l2, e]; rfl)
        subst this
        rw [List.append_nil] at q
        exact q _ H (Ex.refl H) (.tup hs ha)
def cutL {α : Type} (xs : List α) (lo hi : Option Int) : List α := (xs.drop (HT.sIx xs.length 0 lo)).take (HT.sIx xs.length xs.length hi - HT.sIx xs.length 0 lo)
theorem cut_all {vs : List V} {lo hi : Option Int} (h : DpAll K H vs ds) : DpAll K H (cutV vs lo hi) (cutL ds lo hi) := by
  unfold cutV cutL
  rw [h.length]
  exact (h.drop _).take _
theorem ed_slT {tl th : TO} {lo hi : Option Int} (h : EvD K te σ H (.tuple ds)) (h1 : EvO tl σ H lo) (h2 : EvO th σ H hi) : EvD K (tSl (rSlA K) te tl th) σ H (.tuple (cutL ds lo hi)) := fun H1 a Q q =>
  h H1 a _ fun v H2 e2 hv => h1 H2 (a.trans e2) _ fun H3 e3 => h2 H3 ((a.trans e2).trans e3) _ fun H4 e4 => by
    cases Dpm hv (e3.trans e4) with
    | @tup p xs _ hs ha =>
      have q' : ∀ z H5, Ex H4 H5 → Dp K H5 z (.tuple (cutL ds lo hi)) → Q z H5 := fun z H5 e5 => q z H5 (((e2.trans e3).trans e4).trans e5)
      refine ⟨p, xs, rfl, hs, fun e => ?_, fun _ => newT (cut_all ha) q'⟩
      refine q' _ H4 (Ex.refl H4) ?_
      have : cutL ds lo hi = ds := by
        unfold cutL
        rw [← ha.length, e.1, e.2, Nat.sub_zero, List.drop_zero, ha.length, List.take_length]
      rw [this]
      exact .tup hs ha
theorem ed_slL {tl th : TO} {lo hi : Option Int} (h : EvD K te σ H (.list ds)) (h1 : EvO tl σ H lo) (h2 : EvO th σ H hi) : EvD K (tSl (rSlL K) te tl th) σ H (.list (cutL ds lo hi)) := fun H1 a Q q =>
  h H1 a _ fun v H2 e2 hv => h1 H2 (a.trans e2) _ fun H3 e3 => h2 H3 ((a.trans e2).trans e3) _ fun H4 e4 => by
    cases Dpm hv (e3.trans e4) with
    | @lst p xs _ hs ha => exact ⟨p, xs, rfl, hs, newL (cut_all ha) fun z H5 e5 => q z H5 (((e2.trans e3).trans e4).trans e5)⟩
theorem eo_none : EvO tNoPart σ H none := fun H1 _ _ q => q H1 (Ex.refl H1)
theorem eo_some {i : Int} (h : EvD K te σ H (.int i)) : EvO (tPart te) σ H (some i) := fun H1 e _ q => h H1 e _ fun v H2 e2 hv => by
  cases hv
  exact ⟨i, rfl, q H2 e2⟩
theorem eo_c {i : Int} : EvO (tPart (tC (.int i))) σ H (some i) := fun H1 e _ q => ⟨i, rfl, q H1 (Ex.refl H1)⟩
theorem ed_un {i : Int} (h : EvD K te σ H (.int i)) : EvD K (tUn (rU fun i => .int (-i)) te) σ H (.int (-i)) := fun H1 e _ q => h H1 e _ fun v H2 e2 hv => by
  cases hv
  exact ⟨i, rfl, q _ H2 e2 (.int _)⟩
/-! ### tests -/
theorem et_test {b : Bool} (h : EvD K te σ H (.bool b)) : EvT (tTest te) σ H b := fun H1 e _ q => h H1 e _ fun v H2 e2 hv => by
  cases hv
  exact ⟨b, rfl, q H2 e2⟩
theorem et_B {b : Bool} (h : EvD K te σ H (.bool b)) : EvT (tB te) σ H b := fun H1 e _ q => h H1 e _ fun v H2 e2 hv => by
  cases hv
  exact ⟨b, rfl, q H2 e2⟩
def isNone : PD → Bool
  | .none => true
  | _ => false
theorem dp_none (h : Dp K H v d) : decide (v = .non) = isNone d := by
  cases h <;> simp [isNone]
theorem ed_isN (h : EvD K te σ H d) : EvD K (tIsN te) σ H (.bool (isNone d)) := fun H1 e _ q => h H1 e _ fun v H2 e2 hv => by
  rw [dp_none hv]
  exact q _ H2 e2 (.bl _)
theorem ed_notN (h : EvD K te σ H d) : EvD K (tNotN te) σ H (.bool (!isNone d)) := fun H1 e _ q => h H1 e _ fun v H2 e2 hv => by
  rw [dp_none hv]
  exact q _ H2 e2 (.bl _)
theorem et_and {a b : Bool} (h1 : EvT t σ H a) (h2 : a = true → EvT u σ H b) : EvT (tAnd t u) σ H (a && b) := Evl.et_and h1 h2
theorem ed_andV {a b : Bool} (h1 : EvD K ta σ H (.bool a)) (h2 : a = true → EvD K tb σ H (.bool b)) : EvD K (tAndV ta tb) σ H (.bool (a && b)) := fun H1 e Q q => h1 H1 e _ fun v H2 e2 hv => by
  cases hv
  refine ⟨a, rfl, ?_⟩
  cases a with
  | true =>
    show tb σ H2 Q
    exact h2 rfl H2 (e.trans e2) Q fun v H3 e3 => q v H3 (e2.trans e3)
  | false =>
    show Q (.bl false) H2
    exact q _ H2 e2 (.bl _)
theorem ed_orV {a b : Bool} (h1 : EvD K ta σ H (.bool a)) (h2 : a = false → EvD K tb σ H (.bool b)) : EvD K (tOrV ta tb) σ H (.bool (a || b)) := fun H1 e Q q => h1 H1 e _ fun v H2 e2 hv => by
  cases hv
  refine ⟨a, rfl, ?_⟩
  cases a with
  | true =>
    show Q (.bl true) H2
    exact q _ H2 e2 (.bl _)
  | false =>
    show tb σ H2 Q
    exact h2 rfl H2 (e.trans e2) Q fun v H3 e3 => q v H3 (e2.trans e3)
theorem ed_notV {a : Bool} (h1 : EvD K ta σ H (.bool a)) : EvD K (tNotV ta) σ H (.bool (!a)) := fun H1 e _ q => h1 H1 e _ fun v H2 e2 hv => by
  cases hv
  exact ⟨a, rfl, q _ H2 e2 (.bl _)⟩
theorem ed_if {b : Bool} (h : EvT t σ H b) (h1 : b = true → EvD K ta σ H d) (h2 : b = false → EvD K tb σ H d) : EvD K (tIf t ta tb) σ H d := fun H1 e Q q => h H1 e _ fun H2 e2 => by
  cases b with
  | true =>
    show ta σ H2 Q
    exact h1 rfl H2 (e.trans e2) Q fun v H3 e3 => q v H3 (e2.trans e3)
  | false =>
    show tb σ H2 Q
    exact h2 rfl H2 (e.trans e2) Q fun v H3 e3 => q v H3 (e2.trans e3)
theorem ed_if2 {b : Bool} {d1 d2 : PD} (h : EvT t σ H b) (h1 : EvD K ta σ H d1) (h2 : EvD K tb σ H d2) : EvD K (tIf t ta tb) σ H (if b = true then d1 else d2) :=
  ed_if h (fun e => by rw [if_pos e]; exact h1) fun e => by rw [if_neg (by rw [e]; decide)]; exact h2
/-- a op b op c, ints -/
theorem ed_chain {p p' : Int → Int → Bool} {tc : TE} {i j k : Int} (h1 : EvD K ta σ H (.int i)) (h2 : EvD K tb σ H (.int j)) (h3 : EvD K tc σ H (.int k)) :
    EvD K (tChain (rI0 fun i j => .bl (p i j)) (rI0 fun i j => .bl (p' i j)) ta tb tc) σ H (.bool (p i j && p' j k)) := fun H1 e Q q =>
  h1 H1 e _ fun v H2 e2 hv => h2 H2 (e.trans e2) _ fun u H3 e3 hu => by
    cases hv; cases hu
    refine ⟨i, j, rfl, rfl, p i j, rfl, ?_⟩
    cases hb : p i j with
    | true =>
      show tc σ H3 _
      refine h3 H3 ((e.trans e2).trans e3) _ fun w H4 e4 hw => ?_
      cases hw
      exact ⟨j, k, rfl, rfl, by rw [hb] at q; exact q _ H4 ((e2.trans e3).trans e4) (.bl _)⟩
    | false =>
      show Q (.bl false) H3
      rw [hb] at q
      exact q _ H3 (e2.trans e3) (.bl _)
/-! ### calls -/
def RcD (K : PySem.W.Frag) (r : List V → Hp → VK → Prop) (ds : List PD) (f : PD) : Prop := ∀ H vs, DpAll K H vs ds → ∀ Q : VK, (∀ z H2, Ex H H2 → Dp K H2 z f → Q z H2) → r vs H Q
theorem ed_cb {r : List V → Hp → VK → Prop} (h : EvS K tl σ H ds) (hr : RcD K r ds f) : EvD K (tCB r tl) σ H f := fun H1 e Q q =>
  h H1 e _ fun vs H2 e2 hs => hr H2 vs hs Q fun z H3 e3 hz => q z H3 (e2.trans e3) hz
/-- the promise of a def that makes data of data: R args answer -/
def PF (K : PySem.W.Frag) (R : List PD → PD → Prop) : Sp := fun vs H Q _ => ∃ ds d, DpAll K H vs ds ∧ R ds d ∧ ∀ v H', Ex H H' → Dp K H' v d → Q v H'
theorem ed_call {R : List PD → PD → Prop} {E : XK} (h : EvS K tl σ H ds) (hR : R ds f) : EvD K (tCall (PF K R) [] E tl) σ H f := fun H1 e Q q =>
  h H1 e _ fun vs H2 e2 hs => by
    show PF K R (vs ++ []) H2 Q E
    rw [List.append_nil]
    exact ⟨ds, f, hs, hR, fun v H3 e3 hv => q v H3 (e2.trans e3) hv⟩
theorem PF.len {R : List PD → PD → Prop} {n : Nat} (hn : ∀ ds d, R ds d → ds.length = n) : ∀ (vs : List V) (H : Hp) (Q : VK) (E : XK), PF K R vs H Q E → vs.length = n := fun _ _ _ _ ⟨ds, d, h, hR, _⟩ => h.length.trans (hn ds d hR)
theorem rc_int {i : Int} : RcD K (fun xs H Q => (∃ i, xs = [.int i] ∧ Q (.int i) H) ∨ ∃ k, xs = [.bl k] ∧ Q (.int (if k then 1 else 0)) H) [.int i] (.int i) := fun H vs hs Q q => by
  cases hs with
  | cons h1 h2 =>
    cases h1; cases h2
    exact .inl ⟨i, rfl, q _ H (Ex.refl H) (.int _)⟩
theorem rc_all {bs : List Bool} : RcD K (rAll K) [.list (bs.map PyData.bool)] (.bool (bs.all id)) := fun H vs hs Q q => by
  cases hs with
  | cons h1 h2 =>
    cases h2
    cases h1 with
    | @lst a xs _ hl ha =>
      have e := dpa_bls ha
      subst e
      exact ⟨a, bs, rfl, hl, q _ H (Ex.refl H) (.bl _)⟩
theorem rc_tuple_list : RcD K (fun xs H Q => ∃ p ys, xs = [.ref p] ∧ ((SqL K H p ys ∧ ∀ l, H l = none → Q (.ref l) (upd H l (.tup ys))) ∨ (SqT K H p ys ∧ Q (.ref p) H))) [.list ds] (.tuple ds) := fun H vs hs Q q => by
  cases hs with
  | cons h1 h2 =>
    cases h2
    cases h1 with
    | @lst a xs _ hl ha => exact ⟨a, xs, rfl, .inl ⟨hl, newT ha q⟩⟩
theorem rc_list_tuple : RcD K (fun xs H Q => ∃ p ys, xs = [.ref p] ∧ (SqL K H p ys ∨ SqT K H p ys) ∧ ∀ l, H l = none → Q (.ref l) (upd H l (.lst ys))) [.tuple ds] (.list ds) := fun H vs hs Q q => by
  cases hs with
  | cons h1 h2 =>
    cases h2
    cases h1 with
    | @tup a xs _ hl ha => exact ⟨a, xs, rfl, .inr hl, newL ha q⟩
theorem ed_listRg {te : L2.St → Hp → (Int → Int → Hp → Prop) → Prop} {i j : Int} (h : ∀ H1, Ex H H1 → ∀ Q : Int → Int → Hp → Prop, (∀ H2, Ex H1 H2 → Q i j H2) → te σ H1 Q) (hi : 0 ≤ i ∧ i ≤ 100000 ∧ 0 ≤ j ∧ j ≤ 100000) :
    EvD K (tLstRg te) σ H (.list ((List.range (j - i).toNat).map fun k => PyData.int (i + (k : Nat)))) := fun H1 e Q q =>
  h H1 e _ fun H2 e2 => ⟨⟨by omega, by omega, by omega, by omega, by omega⟩, fun p hp => newL (ds := (List.range (j - i).toNat).map fun k => PyData.int (i + (k : Nat))) (vs := rgV i j) (by
    have h := dpa_of_ints (K := K) (H := H2) (ns := (List.range (j - i).toNat).map fun k => i + ((k : Nat) : Int))
    rw [List.map_map, List.map_map] at h
    exact h) (fun z H3 e3 => q z H3 (e2.trans e3)) p hp⟩
theorem er_2 {i j : Int} (h1 : EvD K ta σ H (.int i)) (h2 : EvD K tb σ H (.int j)) : ∀ H1, Ex H H1 → ∀ Q : Int → Int → Hp → Prop, (∀ H2, Ex H1 H2 → Q i j H2) → tRg2 ta tb σ H1 Q := fun H1 e Q q =>
  h1 H1 e _ fun v H2 e2 hv => h2 H2 (e.trans e2) _ fun u H3 e3 hu => by
    cases hv; cases hu
    exact ⟨i, j, rfl, rfl, q H3 (e2.trans e3)⟩
end
end Tlg
/-! enumerate(x) and zip(x, y) where x, y are lists, tuples or texts; zip also while an exception is handled. -/
namespace Tlg
open PySem PySem.Spec PyProof.Rows L2
open Evl (Ex EvT EvO ex_l ex_t)
/-- what is drawn from -/
inductive Src where
  | lst (a : Addr)
  | tup (a : Addr)
  | txt (x : Str)
def signs (x : Str) : List V := x.cps.toList.map fun c => V.str ⟨#[c]⟩
def SrcAt (K : PySem.W.Frag) (H : Hp) : Src → List V → Prop
  | .lst a, xs => SqL K H a xs
  | .tup a, xs => SqT K H a xs
  | .txt x, xs => xs = signs x
def srcV : Src → V
  | .lst a => .ref a
  | .tup a => .ref a
  | .txt x => .str x
def ItAt : Src → Addr → Nat → Heap → Prop
  | .lst a, it, i, h => h.IsListIter it a i
  | .tup a, it, i, h => h.IsTupleIter it a i
  | .txt x, it, i, h => ∃ t, h.IsStrIter it (strIterType x) x t i
theorem SrcAt.inj {X : Cx} {pins : List (Addr × Obj)} {σ : L2.St} {H : Hp} {s : Shared} {src : Src} {xs ys : List V} (I : Inv X pins σ H s) (h : SrcAt X.K H src xs) (h' : SrcAt X.K H src ys) : xs = ys := by
  cases src with
  | lst a => exact I.list_inj h h'
  | tup a => exact I.tuple_inj h h'
  | txt x => exact Eq.trans h (Eq.symm h')
theorem SrcAt.mono {K : PySem.W.Frag} {H H' : Hp} {src : Src} {xs : List V} (e : Ex H H') (h : SrcAt K H src xs) : SrcAt K H' src xs := by
  cases src with
  | lst a => exact ex_l e h
  | tup a => exact ex_t e h
  | txt x => exact h
theorem ItAt.obj {src : Src} {it : Addr} {i : Nat} {h : Heap} (x : ItAt src it i h) : ∃ o vs, h.get? it = some o ∧ o.data = .fields vs := by
  cases src with
  | lst a => obtain ⟨o, e, _, d⟩ := x; exact ⟨o, _, e, d⟩
  | tup a => obtain ⟨o, e, _, d⟩ := x; exact ⟨o, _, e, d⟩
  | txt y => obtain ⟨t, o, e, _, d⟩ := x; exact ⟨o, _, e, d⟩
theorem ItAt.at' {src : Src} {it : Addr} {i : Nat} {h h' : Heap} (x : ItAt src it i h) (k : ∀ o, h.get? it = some o → h'.get? it = some o) : ItAt src it i h' := by
  cases src with
  | lst a => obtain ⟨o, e, d⟩ := x; exact ⟨o, k _ e, d⟩
  | tup a => obtain ⟨o, e, d⟩ := x; exact ⟨o, k _ e, d⟩
  | txt y => obtain ⟨t, o, e, d⟩ := x; exact ⟨t, o, k _ e, d⟩
theorem ItAt.lt {src : Src} {it : Addr} {i : Nat} {h : Heap} (x : ItAt src it i h) : it < h.objs.size := by
  obtain ⟨o, vs, e, _⟩ := x.obj
  exact Heap.lt_size e
/-- the same iterator, told otherwise -/
theorem draws_conv {prog : Program} {w : World} {A : Around} {it : Addr} {fp : List Addr} {n n' : Nat} {P P' : Nat → Value → Prop} {St : Nat → Heap → Prop} (D : Draws prog w A it fp n P St) (hn : n = n') (hP : ∀ i v, P i v → P' i v) :
    Draws prog w A it fp n' P' St := by
  subst hn
  exact ⟨D.live, D.frame, fun i s Q E hi st k => D.item i s Q E hi st fun x h' tk p => k x h' tk (hP _ _ p), D.done⟩
/-! ### a list's end while an exception is handled -/
theorem nextOf_list_end_hot {prog : Program} {w : World} {A : Around} {E : Value → Shared → Prop} {s : Shared} {it l x1 : Addr} {i : Nat} {its : Array Value} {Q : Value → Shared → Prop} (hot : HotX.HotAt A x1 s.heap) (hne : x1 ≠ it)
    (hit : s.heap.IsListIter it l i) (hl : s.heap.IsList l its) (hx : its[i]? = none)
    (k : ∀ h' e, Heap.ExtBut it s.heap h' → (∃ o, h'.get? e = some o ∧ o.cls = .type "StopIteration") → E (.ref e) { s with heap := h' }) :
    wpAny (model prog w) A (Builtin.SmallTypes.nextOf (.ref it)) Q E s := by
  obtain ⟨hh, o1, vs1, h1, d1, c1⟩ := hot
  obtain ⟨oi, e1, ci, di⟩ := id hit
  obtain ⟨ol, e2, _, nl, dl⟩ := hl
  unfold Builtin.SmallTypes.nextOf
  refine wpAny_bind (wpAny_callSpecial?_slot (name := Str.ofString "__next__") hit.typeIs slot_listiter_next (wpAny_call_entry slot_listiter_next hit.typeIs entry_listiter_next ?_ (args_listiter_next _)))
  show wpAny _ _ (field (.ref it) 0 >>= _) _ _ s
  refine wpAny_bind (wpAny_field e1 di (x := .ref l) rfl ?_)
  show wpAny _ _ (if (Value.ref l == Value.none) = true then _ else _) _ _ s
  rw [if_neg (show ¬ ((Value.ref l == Value.none) = true) from Bool.false_ne_true)]
  show wpAny _ _ (field (.ref it) 1 >>= _) _ _ s
  refine wpAny_bind (wpAny_field e1 di (x := .int i 0) rfl ?_)
  show wpAny _ _ (seqItems? (.ref l) >>= _) _ _ s
  refine wpAny_bind (wpAny_seqItems e2 dl ?_)
  simp only [Int.toNat_natCast, hx]
  refine wpAny_bind (wpAny_rule (wpAny_bind (wpAny_setField e1 di (by simp) ?_)))
  show wpAny _ _ (newExc (.type "StopIteration") [] >>= _) _ _ _
  refine wpAny_bind ?_
  simp only [newExc, newTuple]
  refine wpAny_bind (wpAny_newObj_type ?_ (by size_fits))
  refine wpAny_bind (m := firstArgMember _ _) (wpAny_of_eq (a := Value.none) (by first | rfl | (simp only [firstArgMember]; rfl)) ?_)
  refine wpAny_newObj_type ?_ (by size_fits)
  have g1 : ∀ {g : Heap}, Heap.ExtBut it s.heap g → g.get? x1 = some o1 := fun q => q _ _ hne h1
  refine HotX.raiseNew_hot ⟨hh, o1, vs1, g1 (((Heap.SameBut.update ..).extBut.push _).push _), d1, c1⟩ (Nat.ne_of_lt (Heap.lt_size (g1 ((Heap.SameBut.update ..).extBut.push _)))) (Heap.get?_push_size _ rfl) rfl (by first | (simp; done) | (simp; omega) | (simp only [Array.size_append]; simp; omega)) ?_
  refine k _ _ (fun b o hb e => ?_) ⟨_, Heap.get?_update_self _ (Heap.get?_push_size _ rfl) rfl, rfl⟩
  refine (Heap.get?_update_other _ _ (Nat.ne_of_gt (Heap.lt_size ?z))).trans (Heap.get?_push_of_some _ ?z)
  exact ((Heap.SameBut.update ..).extBut.push _) _ _ hb e
theorem draws_list_hot {prog : Program} {w : World} {A : Around} {it l x1 : Addr} (hh : A.handled = some (.ref x1)) (hne : l ≠ it) (hne1 : x1 ≠ it) (items : Array Value) :
    Draws prog w A it [it, l, x1] items.size (fun i v => items[i]? = some v) (fun i h => h.IsListIter it l i ∧ h.IsList l items ∧ ∃ (o : Obj) (vs : Array Value), h.get? x1 = some o ∧ o.data = .fields vs ∧ vs[2]? = some .none) where
  live := fun _ _ st => let ⟨o, ho, _⟩ := st.1; ⟨o, ho⟩
  frame := fun _ _ _ st hk => ⟨st.1.at fun o e => hk it (by simp) o e, st.2.1.at fun o e => hk l (by simp) o e, let ⟨o, vs, e, r⟩ := st.2.2; ⟨o, vs, hk x1 (by simp) o e, r⟩⟩
  item := fun i s Q E hi st hQ => by
    refine wpAny_nextOf_list_item st.1 st.2.1 (x := items[i]) (by simp [hi]) fun h' hit' hs' => ?_
    obtain ⟨o, vs, e, r⟩ := st.2.2
    exact hQ _ h' s.toks (by simp [hi]) ⟨hit', st.2.1.extBut hs'.extBut hne, o, vs, hs'.extBut _ _ hne1 e, r⟩ hs'
  done := fun s Q E st hE => by
    obtain ⟨o, vs, e, d, c⟩ := st.2.2
    exact nextOf_list_end_hot ⟨hh, o, vs, e, d, c⟩ hne1 st.1 st.2.1 (by simp) hE
/-! ### drawing from a source -/
/-- the cells that a source's draws lean on: the iterator, a list or tuple that is known, a pinned object -/
def FpIn (X : Cx) (H : Hp) (it : Addr) (b : Addr) : Prop := b = it ∨ (∃ ys, SqL X.K H b ys ∨ SqT X.K H b ys) ∨ ∃ p ∈ X.pn, p.1 = b
theorem fp_known {X : Cx} {pins : List (Addr × Obj)} {σ : L2.St} {H : Hp} {s : Shared} {b e : Addr} {ys : List V} (I : Inv X pins σ H s) (h : SqL X.K H b ys ∨ SqT X.K H b ys) (f : FpOk X pins H e) : e ≠ b := fun z => by
  subst z
  have hn := f.1
  have inK : ∀ o, X.K.lookup e = some o → False := fun o ho => by
    have hb := I.ok.mod.kin e o ho
    rcases f.2.2.2.1 with z | z
    · exact I.ok.noex e o hb z
    · exact absurd (Nat.lt_of_lt_of_le (Heap.lt_size hb) (Nat.le_trans I.ok.bsz z)) (Nat.lt_irrefl _)
  have nr : ∀ u, ¬ Rd H e u := fun u q => by
    rcases q with q | ⟨o, q⟩ <;> (rw [hn] at q; cases q)
  rcases h with (h | ⟨o, _, _, ho, _⟩) | (h | ⟨o, _, _, ho, _⟩)
  · exact nr _ h
  · exact inK _ ho
  · exact nr _ h
  · exact inK _ ho
theorem src_draws {X : Cx} {pins : List (Addr × Obj)} {σ : L2.St} {H : Hp} {s : Shared} {A : Around} {src : Src} {xs : List V} {it : Addr} {i : Nat} (hA : A.handled = none) (I : Inv X pins σ H s) (h : SrcAt X.K H src xs) (st : ItAt src it i s.heap) :
    ∃ (fp : List Addr) (St : Nat → Heap → Prop), Draws X.prog X.w A it fp xs.length (fun j v => ∃ x, xs[j]? = some x ∧ RelV x v) St ∧ St i s.heap ∧ (∀ j h, St j h → ItAt src it j h) ∧ it ∈ fp ∧ ∀ b ∈ fp, FpIn X H it b := by
  cases src with
  | lst a =>
    obtain ⟨its, rv, p, _⟩ := I.list h
    obtain ⟨o, n, e, c, _, d⟩ := id p
    have hne : a ≠ it := fun z => by
      obtain ⟨o', e', c', _⟩ := st
      rw [← z, e] at e'
      cases e'
      rw [c] at c'
      exact absurd c' (by decide)
    refine ⟨_, _, draws_conv (Draws.list hA it a hne its.toArray) (by rw [List.size_toArray, rv.length]) (fun j v hv => ?_), ⟨st, p.isList⟩, fun j h x => x.1, by simp, fun b hb => ?_⟩
    · have hv' : its[j]? = some v := by simpa using hv
      have hj : j < xs.length := by rw [rv.length]; exact (List.getElem?_eq_some_iff.mp hv').1
      obtain ⟨u, hu, ru⟩ := rv.get (List.getElem?_eq_getElem hj)
      rw [hv'] at hu
      cases hu
      exact ⟨_, List.getElem?_eq_getElem hj, ru⟩
    · have hb' : b = it ∨ b = a := by simpa using hb
      rcases hb' with z | z
      · exact .inl z
      · subst z
        exact .inr (.inl ⟨xs, .inl h⟩)
  | tup a =>
    obtain ⟨its, rv, p, _⟩ := I.tuple h
    obtain ⟨o, e, c, n, d⟩ := id p
    have hne : a ≠ it := fun z => by
      obtain ⟨o', e', c', _⟩ := st
      rw [← z, e] at e'
      cases e'
      rw [c] at c'
      exact absurd c' (by decide)
    refine ⟨_, _, draws_conv (Draws.tuple hA it a hne its.toArray) (by rw [List.size_toArray, rv.length]) (fun j v hv => ?_), ⟨st, p⟩, fun j h x => x.1, by simp, fun b hb => ?_⟩
    · have hv' : its[j]? = some v := by simpa using hv
      have hj : j < xs.length := by rw [rv.length]; exact (List.getElem?_eq_some_iff.mp hv').1
      obtain ⟨u, hu, ru⟩ := rv.get (List.getElem?_eq_getElem hj)
      rw [hv'] at hu
      cases hu
      exact ⟨_, List.getElem?_eq_getElem hj, ru⟩
    · have hb' : b = it ∨ b = a := by simpa using hb
      rcases hb' with z | z
      · exact .inl z
      · subst z
        exact .inr (.inl ⟨xs, .inr h⟩)
  | txt x =>
    obtain rfl : xs = signs x := h
    obtain ⟨t, st⟩ := st
    refine ⟨_, _, draws_conv (Draws.text hA it x t) (by simp [signs]) (fun j v hv => ?_), st, fun j h y => ⟨t, y⟩, by simp, fun b hb => .inl (by simpa using hb)⟩
    obtain ⟨c, u, h1, rfl⟩ := hv
    refine ⟨.str ⟨#[c]⟩, ?_, u, rfl⟩
    unfold signs
    rw [List.getElem?_map, Array.getElem?_toList, h1]
    rfl
/-- .. a list, while an exception is handled -/
theorem src_draws_hot {X : Cx} {pins : List (Addr × Obj)} {σ : L2.St} {H : Hp} {s : Shared} {A : Around} {a : Addr} {xs : List V} {it : Addr} {i : Nat} (hA : A.handled = X.A.handled) (hot : L2H.HotC X) (I : Inv X pins σ H s) (h : SqL X.K H a xs) (st : s.heap.IsListIter it a i) (f : FpOk X pins H it) :
    ∃ (fp : List Addr) (St : Nat → Heap → Prop), Draws X.prog X.w A it fp xs.length (fun j v => ∃ x, xs[j]? = some x ∧ RelV x v) St ∧ St i s.heap ∧ (∀ j h, St j h → ItAt (.lst a) it j h) ∧ it ∈ fp ∧ ∀ b ∈ fp, FpIn X H it b := by
  obtain ⟨q, ⟨hh, v1, dq, c1⟩, hq⟩ := hot
  have eq := (I.pin q (List.mem_append_left _ hq)).1
  have hne1 : q.1 ≠ it := f.2.2.2.2.2 q (List.mem_append_left _ hq)
  obtain ⟨its, rv, p, _⟩ := I.list h
  obtain ⟨o, n, e, c, _, d⟩ := id p
  have hne : a ≠ it := fun z => by
    obtain ⟨o', e', c', _⟩ := st
    rw [← z, e] at e'
    cases e'
    rw [c] at c'
    exact absurd c' (by decide)
  refine ⟨_, _, draws_conv (draws_list_hot (hA.trans hh) hne hne1 its.toArray) (by rw [List.size_toArray, rv.length]) (fun j v hv => ?_), ⟨st, p.isList, q.2, v1, eq, dq, c1⟩, fun j h x => x.1, by simp, fun b hb => ?_⟩
  · have hv' : its[j]? = some v := by simpa using hv
    have hj : j < xs.length := by rw [rv.length]; exact (List.getElem?_eq_some_iff.mp hv').1
    obtain ⟨u, hu, ru⟩ := rv.get (List.getElem?_eq_getElem hj)
    rw [hv'] at hu
    cases hu
    exact ⟨_, List.getElem?_eq_getElem hj, ru⟩
  · have hb' : b = it ∨ b = a ∨ b = q.1 := by simpa using hb
    rcases hb' with z | z | z
    · exact .inl z
    · subst z
      exact .inr (.inl ⟨xs, .inl h⟩)
    · exact .inr (.inr ⟨q, hq, z.symm⟩)
/-- an iterator's own object is no other one's cell -/
theorem FpIn.ne {X : Cx} {pins : List (Addr × Obj)} {σ : L2.St} {H : Hp} {s : Shared} {it b e : Addr} (x : FpIn X H it b) (I : Inv X pins σ H s) (f : FpOk X pins H e) (hne : e ≠ it) : e ≠ b := fun z => by
  subst z
  rcases x with x | ⟨_, x⟩ | ⟨p, hp, x⟩
  · exact hne x
  · exact fp_known I x f rfl
  · exact f.2.2.2.2.2 p (List.mem_append_left _ hp) x
/-! ### enumerate -/
def ItE (K : PySem.W.Frag) (src : Src) : It :=
  ⟨fun i H => ∃ (xs : List V) (x : V), SrcAt K H src xs ∧ xs[i]? = some x,
   fun i H v H' => ∃ T x, v = .ref T ∧ H T = none ∧ H' = upd H T (.tup [.int (i : Nat), x]) ∧ ∀ xs, SrcAt K H src xs → xs[i]? = some x,
   fun i H => ∃ xs : List V, SrcAt K H src xs ∧ xs.length = i⟩
theorem turn_enumS {P : Program} {w : World} {K : PySem.W.Frag} {elts : List Expr} {kk : Nat} {tpos : Pos} (src : Src) (e it : Addr) :
    Turn P w K (.Tuple elts kk tpos) (ItE K src) [e, it] e (fun i h => (∃ old, IsEnum h e it ((i : Nat) : Int) old) ∧ ItAt src it i h ∧ e ≠ it) where
  mem := by simp
  obj := fun i h st b hb => by
    obtain ⟨⟨old, he⟩, hit, _⟩ := st
    obtain ⟨o, vs, ho, hd⟩ := hit.obj
    have e' : b = e ∨ b = it := by simpa using hb
    rcases e' with z | z
    · rw [z]; exact ⟨_, he, fun v q => nomatch q⟩
    · rw [z]; exact ⟨o, ho, fun v q => by rw [hd] at q; cases q⟩
  keep := fun i h h' st k => let ⟨⟨old, he⟩, hi, hne⟩ := st; ⟨⟨old, k e (by simp) _ he⟩, hi.at' fun o q => k it (by simp) o q, hne⟩
  item := by
    intro X hP hw hK hc i pins s σ H E I hf st hg
    subst hP hw hK
    obtain ⟨⟨old, he⟩, hit, hne⟩ := st
    obtain ⟨xs, x, hq, hx⟩ := hg
    obtain ⟨fp, St, D, hSt, back, hmem, hin⟩ := src_draws (A := X.A.in1) (show X.A.in1.handled = none from I.ok.hd hc) I hq hit
    have hef : e ∉ fp := fun z => (hin e z).ne I (hf e (by simp)) hne rfl
    have hel : e < s.heap.objs.size := Heap.lt_size he
    have hil : it < s.heap.objs.size := hit.lt
    refine wpAny_pyNext_enum_itemC D he hSt (List.getElem?_eq_some_iff.mp hx).1 hne hef fun u h' tk hu ho hit' hT hsz hk => ?_
    obtain ⟨x', hx', ru⟩ := hu
    rw [hx] at hx'
    cases hx'
    refine ⟨_, rfl, wpAny_letOwnedTupleGo_enum (s := { s with heap := h', toks := tk + 1 }) ho fun h'' he' sb => ?_⟩
    have hT2 : h''.get? s.heap.objs.size = some { cls := .type "tuple", data := .seq #[.int i tk, u] } := (sb.2 _ (Nat.ne_of_gt hel)).trans hT
    have new : ObjOk X.prog X.w (upd H s.heap.objs.size (.tup [.int (i : Nat), x])) h'' s.heap.objs.size (.tup [.int (i : Nat), x]) :=
      ⟨by show 2 ≤ sizeLine; decide, [.int i tk, u], .cons ⟨_, rfl⟩ (.cons ru .nil), ⟨_, hT2, rfl, _, rfl⟩⟩
    have I1 : Inv X pins σ (upd H s.heap.objs.size (.tup [.int (i : Nat), x])) { s with heap := h'', toks := tk + 1 } :=
      I.turnedNew (ch := [e, it]) (fun b ob hb q => (sb.2 b (fun z => hb (by simp [z]))).trans (hk b ob (fun z => hb (by simp [z])) (fun z => hb (by simp [z])) q)) hf (Nat.le_refl _) new
    refine ⟨.ref s.heap.objs.size, _, I1, rfl, ⟨_, x, rfl, I.hok.fresh (Nat.le_refl _), rfl, fun ys hy => by rw [SrcAt.inj I hy hq]; exact hx⟩, ⟨⟨u, ?_⟩, (back _ _ hit').at' fun o q => (sb.2 it (Ne.symm hne)).trans q, hne⟩, fun b hb => ?_⟩
    · have e1 : ((i + 1 : Nat) : Int) = (i : Int) + 1 := by omega
      rw [e1]; exact he'
    · have hb' : b < s.heap.objs.size := by
        have e' : b = e ∨ b = it := by simpa using hb
        rcases e' with z | z
        · rw [z]; exact hel
        · rw [z]; exact hil
      rw [upd_ne (Nat.ne_of_lt hb')]
      exact (hf b hb).1
  done := by
    intro X hP hw hK hc i pins s σ H E I hf st hg
    subst hP hw hK
    obtain ⟨⟨old, he⟩, hit, hne⟩ := st
    obtain ⟨xs, hq, hx⟩ := hg
    obtain ⟨fp, St, D, hSt, back, hmem, hin⟩ := src_draws (A := X.A.in1) (show X.A.in1.handled = none from I.ok.hd hc) I hq hit
    obtain ⟨f0, f1, f2, f3, f4, f5⟩ := hf it (by simp)
    rw [← hx] at hSt
    exact wpAny_pyNext_enum_endD D he hSt fun h' eb => ⟨rfl, I.turned (t' := s.toks) (fun b o hb q => eb b o hb q) f0 f1 f3 f4 f5⟩
  self := fun A i s Q E st h => let ⟨⟨_, he⟩, _⟩ := st; wpAny_pyIter_enum he h
/-- how a source's iterator begins -/
theorem src_begins {X : Cx} {pins : List (Addr × Obj)} {σ : L2.St} {H : Hp} {s : Shared} {src : Src} {xs : List V} {v : Value} (I : Inv X pins σ H s) (h : SrcAt X.K H src xs) (rv : RelV (srcV src) v) :
    ∃ (o : Obj) (HH : Heap → Prop), Begins v o HH ∧ HH s.heap ∧ ∀ (h' : Heap) (it : Addr), h'.get? it = some o → ItAt src it 0 h' := by
  cases src with
  | lst a =>
    cases (show v = Value.ref a from rv)
    obtain ⟨its, _, p, _⟩ := I.list h
    exact ⟨_, _, begins_list a its.toArray, p.isList, fun h' it e => ⟨_, e, rfl, rfl⟩⟩
  | tup a =>
    cases (show v = Value.ref a from rv)
    obtain ⟨its, _, p, _⟩ := I.tuple h
    exact ⟨_, _, begins_tuple a its.toArray, p, fun h' it e => ⟨_, e, rfl, rfl⟩⟩
  | txt x =>
    obtain ⟨t, rfl⟩ := (show ∃ t, v = Value.str x t from rv)
    exact ⟨_, _, begins_text x t, True.intro, fun h' it e => ⟨t, _, e, rfl, rfl⟩⟩
def iEnumS (K : PySem.W.Frag) (ta : TA) : TI := fun σ H R => ta σ H fun vs H1 => ∃ src xs, vs = [srcV src] ∧ SrcAt K H1 src xs ∧ R (ItE K src) H1
theorem meets_enum1 {v : Value} {o : Obj} {HH : Heap → Prop} (B : Begins v o HH) :
    Meets (Builtin.«enumerate.__new__» ⟨[.type "enumerate", v], []⟩) (fun _ R s => HH s.heap ∧
      R (.ok (.ret (.ref (s.heap.push o).objs.size))) { s with heap := (s.heap.push o).push { cls := .type "enumerate", data := .fields #[.none, .bool false, .ref s.heap.objs.size, rawInt 0, .none, .none] } }) :=
  .of_wp fun prog w A R s h => by
    obtain ⟨hp, g, d, tk, os⟩ := s
    obtain ⟨h1, h⟩ := h
    have hsub := sub_enumerate
    have q1 : ∀ {A' : Around} {E : Value → Shared → Prop} {Q : Value → Shared → Prop}, Q (.ref hp.objs.size) ⟨hp.push o, g, d, tk, os⟩ → wpAny (model prog w) A' (pyIter v) Q E ⟨hp, g, d, tk, os⟩ :=
      fun q => B.iter prog w _ _ ⟨hp, g, d, tk, os⟩ _ h1 q
    wp_walk using q1
    refine wpAny_stack_any fun st => wpAny_pure ?_
    split
    · rename_i c _ _ _ _ _
      cases (c == Value.type "enumerate")
      · wp_walk using q1
        exact ⟨_, rfl, h⟩
      · wp_walk using q1
        exact ⟨_, rfl, h⟩
    · wp_walk using q1
      exact ⟨_, rfl, h⟩
theorem enum_begins1 {prog : Program} {w : World} {A : Around} {E : Value → Shared → Prop} {s : Shared} {v : Value} {o : Obj} {HH : Heap → Prop} {Q : Value → Shared → Prop} (B : Begins v o HH) (h1 : HH s.heap)
    (k : ∀ h', IsEnum h' (s.heap.objs.size + 1) s.heap.objs.size 0 .none → h'.get? s.heap.objs.size = some o → (∀ b u, s.heap.get? b = some u → h'.get? b = some u) → Q (.ref (s.heap.objs.size + 1)) { s with heap := h' }) :
    wpAny (model prog w) A (call (.type "enumerate") [v]) Q E s := by
  refine callType_new F.called_enumerate (by decide) (F.typeCall_enumerate_1 _) (F.newCall_enumerate_1 _) (fun obj => F.args_object_init_2 obj _) F.entry_enumerate_new (meets_enum1 B) ⟨h1, ?_⟩
  have hz : (s.heap.push o).objs.size = s.heap.objs.size + 1 := Heap.size_push ..
  show _ ∧ _
  rw [hz]
  have he : IsEnum ((s.heap.push o).push { cls := .type "enumerate", data := .fields #[.none, .bool false, .ref s.heap.objs.size, rawInt 0, .none, .none] }) (s.heap.objs.size + 1) s.heap.objs.size 0 .none := by
    have z := Heap.get?_push_size (s.heap.push o) (o := { cls := .type "enumerate", data := .fields #[.none, .bool false, .ref s.heap.objs.size, rawInt 0, .none, .none] }) rfl
    rw [hz] at z
    exact z
  exact ⟨⟨_, he, rfl⟩, k _ he (Heap.get?_push_of_some _ (Heap.get?_push_size _ B.free)) fun b u x => Heap.get?_push_of_some _ (Heap.get?_push_of_some _ x)⟩
theorem pi_enumS {X : Cx} {e : Expr} {ta : TA} {p pos tpos : Pos} {elts : List Expr} {kk : Nat} (hg : Gl X "enumerate") (hm : X.mg "enumerate" = none) (ha : PA X [e] ta) (hs : starEach [e] X.env = [(false, eval e X.env)] := by rfl) :
    PI X (.Tuple elts kk tpos) (.Call (.Name "enumerate" p) [e] [] pos) (iEnumS X.K ta) := by
  refine ⟨fun pins s σ H R I h => ?_⟩
  refine Call_ (ld_blt I hg hm boot_enumerate (PyProof.Rows.callWith_type1 (thn (ha.run pos pins s σ H _ I h) fun us s1 ⟨vs, H1, I1, r1, q1⟩ => ?_) hs rfl))
  obtain ⟨src, xs, ex, hq, q⟩ := q1
  subst ex
  cases r1 with
  | cons r rr =>
    cases rr
    obtain ⟨o, HH, B, hB, hIt⟩ := src_begins I1 hq r
    refine enum_begins1 B hB fun h' he hit hk => wpAny_pyIter_enum he ?_
    have I2 : Inv X pins σ H1 { s1 with heap := h' } := I1.kept (t' := s1.toks) hk
    refine ⟨s1.heap.objs.size + 1, [s1.heap.objs.size + 1, s1.heap.objs.size], _, _, H1, rfl, I2, turn_enumS src (s1.heap.objs.size + 1) s1.heap.objs.size, ⟨⟨.none, he⟩, hIt h' _ hit, Nat.succ_ne_self _⟩, fun b hb => ?_, q⟩
    have e' : b = s1.heap.objs.size + 1 ∨ b = s1.heap.objs.size := by simpa using hb
    have hle : s1.heap.objs.size ≤ b := by
      rcases e' with z | z
      · rw [z]; exact Nat.le_add_right _ _
      · rw [z]; exact Nat.le_refl _
    exact I1.fpOk hle (I1.hok.fresh hle)
/-! ### zip -/
def ItZ (K : PySem.W.Frag) (s1 s2 : Src) : It :=
  ⟨fun i H => ∃ (xs ys : List V) (x y : V), SrcAt K H s1 xs ∧ SrcAt K H s2 ys ∧ xs[i]? = some x ∧ ys[i]? = some y,
   fun i H v H' => ∃ T x y, v = .ref T ∧ H T = none ∧ H' = upd H T (.tup [x, y]) ∧ (∀ xs, SrcAt K H s1 xs → xs[i]? = some x) ∧ ∀ ys, SrcAt K H s2 ys → ys[i]? = some y,
   fun i H => ∃ xs ys : List V, SrcAt K H s1 xs ∧ SrcAt K H s2 ys ∧ i ≤ xs.length ∧ i ≤ ys.length ∧ (i = xs.length ∨ i = ys.length)⟩
/-- the zip's own objects stand apart -/
structure ZApart (z TI TO i1 i2 : Addr) : Prop where
  TIz : TI ≠ z
  TOz : TO ≠ z
  TITO : TI ≠ TO
  TIi1 : TI ≠ i1
  TIi2 : TI ≠ i2
  TOi1 : TO ≠ i1
  TOi2 : TO ≠ i2
  zi1 : z ≠ i1
  zi2 : z ≠ i2
  i12 : i1 ≠ i2
def ZAt (s1 s2 : Src) (z TI TO i1 i2 : Addr) (i : Nat) (h : Heap) : Prop := IsZip h z TI TO .none ∧ IsTupOf2 h TI (.ref i1) (.ref i2) ∧ (∃ x y, IsTupOf2 h TO x y) ∧ ItAt s1 i1 i h ∧ ItAt s2 i2 i h
def DrawIn (X : Cx) (H : Hp) (s : Shared) (src : Src) (xs : List V) (it : Addr) (i : Nat) : Prop :=
  ∃ (fp : List Addr) (St : Nat → Heap → Prop), Draws X.prog X.w X.A.in1 it fp xs.length (fun j v => ∃ x, xs[j]? = some x ∧ RelV x v) St ∧ St i s.heap ∧ (∀ j h, St j h → ItAt src it j h) ∧ it ∈ fp ∧ ∀ b ∈ fp, FpIn X H it b
section
variable {X : Cx} {pins : List (Addr × Obj)} {σ : L2.St} {H : Hp} {s : Shared} {E : Value → Shared → Prop} {s1 s2 : Src} {z TI TO i1 i2 : Addr} {i : Nat} {xs ys : List V}
theorem zip_sep (I : Inv X pins σ H s) (Z : ZApart z TI TO i1 i2) (hf : ∀ b ∈ [z, TI, TO, i1, i2], FpOk X pins H b) {fp1 fp2 : List Addr} (m1 : i1 ∈ fp1) (m2 : i2 ∈ fp2) (n1 : ∀ b ∈ fp1, FpIn X H i1 b) (n2 : ∀ b ∈ fp2, FpIn X H i2 b) :
    ZipSep2 z TI TO i1 i2 fp1 fp2 :=
  ⟨Z.TIz, Z.TOz, Z.TITO, Z.TIi1, m1, fun q => (n1 z q).ne I (hf z (by simp)) Z.zi1 rfl, fun q => (n1 TO q).ne I (hf TO (by simp)) Z.TOi1 rfl, Z.TIi2, m2, fun q => (n2 z q).ne I (hf z (by simp)) Z.zi2 rfl, fun q => (n2 TO q).ne I (hf TO (by simp)) Z.TOi2 rfl,
    fun q => (n2 i1 q).ne I (hf i1 (by simp)) Z.i12 rfl, fun q => (n1 i2 q).ne I (hf i2 (by simp)) (Ne.symm Z.i12) rfl⟩
/-- one turn of a zip -/
theorem zip_item {elts : List Expr} {kk : Nat} {tpos : Pos} (I : Inv X pins σ H s) (Z : ZApart z TI TO i1 i2) (hf : ∀ b ∈ [z, TI, TO, i1, i2], FpOk X pins H b) (st : ZAt s1 s2 z TI TO i1 i2 i s.heap) (hq1 : SrcAt X.K H s1 xs) (hq2 : SrcAt X.K H s2 ys)
    (D1 : DrawIn X H s s1 xs i1 i) (D2 : DrawIn X H s s2 ys i2 i) {x y : V} (hx : xs[i]? = some x) (hy : ys[i]? = some y) :
    wpAny (model X.prog X.w) X.A (pyNext (.ref z)) (fun r s3 => ∃ u, r = some u ∧ wpAny (model X.prog X.w) X.A (letOwnedTupleGo (.Tuple elts kk tpos) (.ref z) u) (fun _ s4 => ∃ v H', Inv X pins σ H' s4 ∧ RelV v u ∧ (ItZ X.K s1 s2).yld i H v H' ∧ ZAt s1 s2 z TI TO i1 i2 (i + 1) s4.heap ∧ ∀ b ∈ [z, TI, TO, i1, i2], H' b = none) E s3) E s := by
  obtain ⟨hz, hTI, ⟨x0, y0, hTO⟩, h1, h2⟩ := st
  obtain ⟨fp1, St1, D1, st1, b1, m1, n1⟩ := D1
  obtain ⟨fp2, St2, D2, st2, b2, m2, n2⟩ := D2
  have S := zip_sep I Z hf m1 m2 n1 n2
  have hzl : z < s.heap.objs.size := Heap.lt_size hz
  refine wpAny_pyNext_zipD2_item S D1 D2 hz hTI hTO st1 st2 (List.getElem?_eq_some_iff.mp hx).1 (List.getElem?_eq_some_iff.mp hy).1 fun u1 u2 h' tk p1 p2 z' TO' s1' s2' hT hsz hk => ?_
  obtain ⟨x', hx', r1⟩ := p1
  obtain ⟨y', hy', r2⟩ := p2
  rw [hx] at hx'
  cases hx'
  rw [hy] at hy'
  cases hy'
  refine ⟨_, rfl, wpAny_letOwnedTupleGo_zip (s := { s with heap := h', toks := tk }) z' fun h'' z'' sb => ?_⟩
  have hT2 : h''.get? s.heap.objs.size = some { cls := .type "tuple", data := .seq #[u1, u2] } := (sb.2 _ (Nat.ne_of_gt hzl)).trans hT
  have new : ObjOk X.prog X.w (upd H s.heap.objs.size (.tup [x, y])) h'' s.heap.objs.size (.tup [x, y]) := ⟨by show 2 ≤ sizeLine; decide, [u1, u2], .cons r1 (.cons r2 .nil), ⟨_, hT2, rfl, _, rfl⟩⟩
  have I1 : Inv X pins σ (upd H s.heap.objs.size (.tup [x, y])) { s with heap := h'', toks := tk } :=
    I.turnedNew (t' := tk) (ch := [z, TI, TO, i1, i2]) (fun c o hb q => (sb.2 c (fun q' => hb (by simp [q']))).trans (hk c o (fun q' => hb (by simp [q'])) (fun q' => hb (by simp [q'])) (fun q' => hb (by simp [q'])) (fun q' => hb (by simp [q'])) q)) hf (Nat.le_refl _) new
  refine ⟨.ref s.heap.objs.size, _, I1, rfl, ⟨_, x, y, rfl, I.hok.fresh (Nat.le_refl _), rfl, fun l hl => by rw [SrcAt.inj I hl hq1]; exact hx, fun l hl => by rw [SrcAt.inj I hl hq2]; exact hy⟩, ⟨z'', ?_, ⟨u1, u2, ?_⟩, ?_, ?_⟩, fun c hcm => ?_⟩
  · exact (sb.2 _ Z.TIz).trans (hk _ _ Z.TIz Z.TITO Z.TIi1 Z.TIi2 hTI)
  · exact (sb.2 _ Z.TOz).trans TO'
  · exact (b1 _ _ s1').at' fun o q => (sb.2 _ (Ne.symm Z.zi1)).trans q
  · exact (b2 _ _ s2').at' fun o q => (sb.2 _ (Ne.symm Z.zi2)).trans q
  · have hlt : c < s.heap.objs.size := by
      have e' : c = z ∨ c = TI ∨ c = TO ∨ c = i1 ∨ c = i2 := by simpa using hcm
      rcases e' with q | q | q | q | q
      · rw [q]; exact hzl
      · rw [q]; exact Heap.lt_size hTI
      · rw [q]; exact Heap.lt_size hTO
      · rw [q]; exact h1.lt
      · rw [q]; exact h2.lt
    rw [upd_ne (Nat.ne_of_lt hlt)]
    exact (hf c hcm).1
theorem zip_done (I : Inv X pins σ H s) (Z : ZApart z TI TO i1 i2) (hf : ∀ b ∈ [z, TI, TO, i1, i2], FpOk X pins H b) (st : ZAt s1 s2 z TI TO i1 i2 i s.heap) (D1 : DrawIn X H s s1 xs i1 i) (D2 : DrawIn X H s s2 ys i2 i) (l1 : i ≤ xs.length) (l2 : i ≤ ys.length) (hend : i = xs.length ∨ i = ys.length) :
    wpAny (model X.prog X.w) X.A (pyNext (.ref z)) (fun r s3 => r = none ∧ Inv X pins σ H s3) E s := by
  obtain ⟨hz, hTI, ⟨x0, y0, hTO⟩, h1, h2⟩ := st
  obtain ⟨fp1, St1, D1, st1, b1, m1, n1⟩ := D1
  obtain ⟨fp2, St2, D2, st2, b2, m2, n2⟩ := D2
  exact wpAny_pyNext_zipD2_end (zip_sep I Z hf m1 m2 n1 n2) D1 D2 hz hTI hTO st1 st2 l1 l2 hend fun h' tk hk => ⟨rfl, I.turnedL (t' := tk) (ch := [z, TI, TO, i1, i2]) (fun c o hb q =>
    hk c o (fun q' => hb (by simp [q'])) (fun q' => hb (by simp [q'])) (fun q' => hb (by simp [q'])) (fun q' => hb (by simp [q'])) q) hf⟩
end
theorem zat_obj {s1 s2 : Src} {z TI TO i1 i2 : Addr} {i : Nat} {h : Heap} (st : ZAt s1 s2 z TI TO i1 i2 i h) : ∀ b ∈ [z, TI, TO, i1, i2], ∃ o, h.get? b = some o ∧ ∀ v, o.data ≠ .cell v := fun c hc => by
  obtain ⟨hz, hTI, ⟨x, y, hTO⟩, h1, h2⟩ := st
  obtain ⟨o1, v1, e1, d1⟩ := h1.obj
  obtain ⟨o2, v2, e2, d2⟩ := h2.obj
  have e' : c = z ∨ c = TI ∨ c = TO ∨ c = i1 ∨ c = i2 := by simpa using hc
  rcases e' with q | q | q | q | q
  · rw [q]; exact ⟨_, hz, fun v q => nomatch q⟩
  · rw [q]; exact ⟨_, hTI, fun v q => nomatch q⟩
  · rw [q]; exact ⟨_, hTO, fun v q => nomatch q⟩
  · rw [q]; exact ⟨o1, e1, fun v q => by rw [d1] at q; cases q⟩
  · rw [q]; exact ⟨o2, e2, fun v q => by rw [d2] at q; cases q⟩
theorem zat_keep {s1 s2 : Src} {z TI TO i1 i2 : Addr} {i : Nat} {h h' : Heap} (st : ZAt s1 s2 z TI TO i1 i2 i h) (k : ∀ b ∈ [z, TI, TO, i1, i2], ∀ o, h.get? b = some o → h'.get? b = some o) : ZAt s1 s2 z TI TO i1 i2 i h' := by
  obtain ⟨hz, hTI, ⟨x, y, hTO⟩, h1, h2⟩ := st
  exact ⟨k z (by simp) _ hz, k TI (by simp) _ hTI, ⟨x, y, k TO (by simp) _ hTO⟩, h1.at' fun o q => k i1 (by simp) o q, h2.at' fun o q => k i2 (by simp) o q⟩
theorem turn_zipS {P : Program} {w : World} {K : PySem.W.Frag} {elts : List Expr} {kk : Nat} {tpos : Pos} {s1 s2 : Src} {z TI TO i1 i2 : Addr} (Z : ZApart z TI TO i1 i2) :
    Turn P w K (.Tuple elts kk tpos) (ItZ K s1 s2) [z, TI, TO, i1, i2] z (ZAt s1 s2 z TI TO i1 i2) where
  mem := by simp
  obj := fun i h st => zat_obj st
  keep := fun i h h' st k => zat_keep st k
  item := by
    intro X hP hw hK hc i pins s σ H E I hf st hg
    subst hP hw hK
    obtain ⟨xs, ys, x, y, hq1, hq2, hx, hy⟩ := hg
    exact zip_item I Z hf st hq1 hq2 (src_draws (show X.A.in1.handled = none from I.ok.hd hc) I hq1 st.2.2.2.1) (src_draws (show X.A.in1.handled = none from I.ok.hd hc) I hq2 st.2.2.2.2) hx hy
  done := by
    intro X hP hw hK hc i pins s σ H E I hf st hg
    subst hP hw hK
    obtain ⟨xs, ys, hq1, hq2, l1, l2, hend⟩ := hg
    exact zip_done I Z hf st (src_draws (show X.A.in1.handled = none from I.ok.hd hc) I hq1 st.2.2.2.1) (src_draws (show X.A.in1.handled = none from I.ok.hd hc) I hq2 st.2.2.2.2) l1 l2 hend
  self := fun A i s Q E st h => wpAny_pyIter_zip st.1 h
/-- .. of two lists, while an exception is handled -/
theorem turn_zipH {P : Program} {w : World} {K : PySem.W.Frag} {elts : List Expr} {kk : Nat} {tpos : Pos} {a b z TI TO i1 i2 : Addr} (Z : ZApart z TI TO i1 i2) :
    L2H.TurnH P w K (.Tuple elts kk tpos) (ItZ K (.lst a) (.lst b)) [z, TI, TO, i1, i2] z (ZAt (.lst a) (.lst b) z TI TO i1 i2) where
  mem := by simp
  obj := fun i h st => zat_obj st
  keep := fun i h h' st k => zat_keep st k
  item := by
    intro X hP hw hK hc i pins s σ H E I hf st hg
    subst hP hw hK
    obtain ⟨xs, ys, x, y, hq1, hq2, hx, hy⟩ := hg
    exact zip_item I Z hf st hq1 hq2 (src_draws_hot rfl hc I hq1 st.2.2.2.1 (hf i1 (by simp))) (src_draws_hot rfl hc I hq2 st.2.2.2.2 (hf i2 (by simp))) hx hy
  done := by
    intro X hP hw hK hc i pins s σ H E I hf st hg
    subst hP hw hK
    obtain ⟨xs, ys, hq1, hq2, l1, l2, hend⟩ := hg
    exact zip_done I Z hf st (src_draws_hot rfl hc I hq1 st.2.2.2.1 (hf i1 (by simp))) (src_draws_hot rfl hc I hq2 st.2.2.2.2 (hf i2 (by simp))) l1 l2 hend
  self := fun A i s Q E st h => wpAny_pyIter_zip st.1 h
def iZipS (K : PySem.W.Frag) (ta : TA) : TI := fun σ H R => ta σ H fun vs H1 => ∃ s1 s2 xs ys, vs = [srcV s1, srcV s2] ∧ SrcAt K H1 s1 xs ∧ SrcAt K H1 s2 ys ∧ R (ItZ K s1 s2) H1
theorem ne_off (N : Nat) {i j : Nat} (h : i ≠ j) : N + i ≠ N + j := fun e => h (Nat.add_left_cancel e)
theorem ne_off0 (N : Nat) {i : Nat} (h : i ≠ 0) : N + i ≠ N := fun e => h (Nat.add_left_cancel (e.trans (Nat.add_zero N).symm))
theorem z_apart (N : Nat) : ZApart (N + 4) (N + 2) (N + 3) N (N + 1) :=
  ⟨ne_off N (by decide), ne_off N (by decide), ne_off N (by decide), ne_off0 N (by decide), ne_off N (by decide), ne_off0 N (by decide), ne_off N (by decide), ne_off0 N (by decide), ne_off N (by decide), Ne.symm (ne_off0 N (by decide))⟩
theorem zip_call {X : Cx} {pins : List (Addr × Obj)} {σ : L2.St} {H : Hp} {s : Shared} {E : Value → Shared → Prop} {s1 s2 : Src} {xs ys : List V} {v1 v2 : Value} {Q : Value → Shared → Prop} (I : Inv X pins σ H s) (h1 : SrcAt X.K H s1 xs) (h2 : SrcAt X.K H s2 ys) (r1 : RelV (srcV s1) v1) (r2 : RelV (srcV s2) v2)
    (k : ∀ h', Inv X pins σ H { s with heap := h' } → ZAt s1 s2 (s.heap.objs.size + 4) (s.heap.objs.size + 2) (s.heap.objs.size + 3) s.heap.objs.size (s.heap.objs.size + 1) 0 h' →
      (∀ b ∈ [s.heap.objs.size + 4, s.heap.objs.size + 2, s.heap.objs.size + 3, s.heap.objs.size, s.heap.objs.size + 1], FpOk X pins H b) → Q (.ref (s.heap.objs.size + 4)) { s with heap := h' }) :
    wpAny (model X.prog X.w) X.A (call (.type "zip") [v1, v2]) Q E s := by
  obtain ⟨o1, HH1, B1, hB1, It1⟩ := src_begins I h1 r1
  obtain ⟨o2, HH2, B2, hB2, It2⟩ := src_begins I h2 r2
  refine zip_begins2 B1 B2 hB1 hB2 fun h' hz hTI hTO g1 g2 hsz hk => k h' (I.kept (t' := s.toks) hk) ⟨hz, hTI, ⟨_, _, hTO⟩, It1 _ _ g1, It2 _ _ g2⟩ fun c hcm => ?_
  have e' : c = s.heap.objs.size + 4 ∨ c = s.heap.objs.size + 2 ∨ c = s.heap.objs.size + 3 ∨ c = s.heap.objs.size ∨ c = s.heap.objs.size + 1 := by simpa using hcm
  have hle : s.heap.objs.size ≤ c := by
    rcases e' with z | z | z | z | z
    · rw [z]; exact Nat.le_add_right _ _
    · rw [z]; exact Nat.le_add_right _ _
    · rw [z]; exact Nat.le_add_right _ _
    · rw [z]; exact Nat.le_refl _
    · rw [z]; exact Nat.le_add_right _ _
  exact I.fpOk hle (I.hok.fresh hle)
theorem pi_zipS {X : Cx} {e e2 : Expr} {ta : TA} {p pos tpos : Pos} {elts : List Expr} {kk : Nat} (hg : Gl X "zip") (hm : X.mg "zip" = none) (ha : PA X [e, e2] ta)
    (hs : starEach [e, e2] X.env = (false, eval e X.env) :: starEach [e2] X.env := by rfl) (hpl : (backTo pos (starEach [e2] X.env)).any (·.1) = false := by rfl) :
    PI X (.Tuple elts kk tpos) (.Call (.Name "zip" p) [e, e2] [] pos) (iZipS X.K ta) := by
  refine ⟨fun pins s σ H R I h => ?_⟩
  refine Call_ (ld_blt I hg hm PyProof.Rows.boot_zip (PyProof.Rows.callWith_type1 (thn (ha.run pos pins s σ H _ I h) fun us s1 ⟨vs, H1, I1, r1, q1⟩ => ?_) hs hpl))
  obtain ⟨sa, sb, xs, ys, ex, hqx, hqy, q⟩ := q1
  subst ex
  obtain ⟨u1, u2, rfl, r1, r2⟩ := vals2 r1
  refine zip_call I1 hqx hqy r1 r2 fun h' I2 hz hf => wpAny_pyIter_zip hz.1 ?_
  exact ⟨_, _, _, _, H1, rfl, I2, turn_zipS (z_apart _), hz, hf, q⟩
theorem pi_zipH {X : Cx} {e e2 : Expr} {ta : TA} {p pos tpos : Pos} {elts : List Expr} {kk : Nat} (hg : Gl X "zip") (hm : X.mg "zip" = none) (ha : PA X [e, e2] ta)
    (hs : starEach [e, e2] X.env = (false, eval e X.env) :: starEach [e2] X.env := by rfl) (hpl : (backTo pos (starEach [e2] X.env)).any (·.1) = false := by rfl) :
    L2H.PIH X (.Tuple elts kk tpos) (.Call (.Name "zip" p) [e, e2] [] pos) (fun σ H R => ta σ H fun vs H1 => ∃ a b xs ys, vs = [.ref a, .ref b] ∧ SqL X.K H1 a xs ∧ SqL X.K H1 b ys ∧ R (ItZ X.K (.lst a) (.lst b)) H1) := by
  refine ⟨fun pins s σ H R I h => ?_⟩
  refine Call_ (ld_blt I hg hm PyProof.Rows.boot_zip (PyProof.Rows.callWith_type1 (thn (ha.run pos pins s σ H _ I h) fun us s1 ⟨vs, H1, I1, r1, q1⟩ => ?_) hs hpl))
  obtain ⟨a, b, xs, ys, ex, hqx, hqy, q⟩ := q1
  subst ex
  obtain ⟨u1, u2, rfl, r1, r2⟩ := vals2 r1
  refine zip_call (s1 := .lst a) (s2 := .lst b) I1 hqx hqy r1 r2 fun h' I2 hz hf => wpAny_pyIter_zip hz.1 ?_
  exact ⟨_, _, _, _, H1, rfl, I2, turn_zipH (z_apart _), hz, hf, q⟩
end Tlg
/-! What is walked, as data; comprehensions; loops; the rules that are lacking. -/
namespace Tlg
open PySem PySem.Spec PyProof.Rows L2
open Evl (Ex EvT EvO ex_l ex_t)
theorem bb_isinstance : bootBuiltins "isinstance" = some (.builtin "isinstance") := by decide +kernel
theorem bb_len : bootBuiltins "len" = some (.builtin "len") := by decide +kernel
theorem bb_all : bootBuiltins "all" = some (.builtin "all") := by decide +kernel
theorem bb_sum : bootBuiltins "sum" = some (.builtin "sum") := by decide +kernel
theorem bb_sorted : bootBuiltins "sorted" = some (.builtin "sorted") := by decide +kernel
theorem bb_int : bootBuiltins "int" = some (.type "int") := by decide +kernel
theorem bb_bool : bootBuiltins "bool" = some (.type "bool") := by decide +kernel
theorem bb_str : bootBuiltins "str" = some (.type "str") := by decide +kernel
theorem bb_list : bootBuiltins "list" = some (.type "list") := by decide +kernel
theorem bb_tuple : bootBuiltins "tuple" = some (.type "tuple") := by decide +kernel
theorem bb_dict : bootBuiltins "dict" = some (.type "dict") := by decide +kernel
theorem bb_set : bootBuiltins "set" = some (.type "set") := by decide +kernel
theorem bb_ValueError : bootBuiltins "ValueError" = some (.type "ValueError") := by decide +kernel
/-! ### rules -/
section
variable {X : Cx}
/-- f(), f a def -/
theorem pe_c0 {k j : Nat} {x : Str} {sp : Sp} {dvs : List V} {p pos : Pos} (c : C8.Cal X.prog X.w X.K X.mg X.base k x sp dvs) (hr : Room j X.A) (hk : k ≤ j) (hg : Gl X x) (hdb : (x == ("__debug__" : Str)) = false := by decide) :
    PE X (.Call (.Name x p) [] [] pos) (tCall sp dvs C8.E0 tNil) := by
  obtain ⟨f, fd, ps, ds, F, hm, kp, b, d⟩ := c.ex
  exact pe_call0 F (hr.mono hk) hg hm kp b d C8.pass0 hdb
/-- sum of a list or a tuple of ints -/
def rSumS (K : PySem.W.Frag) : List V → Hp → VK → Prop := fun vs H Q => ∃ (a : Addr) (ns : List Int), vs = [V.ref a] ∧ (SqL K H a (ns.map V.int) ∨ SqT K H a (ns.map V.int)) ∧ Q (.int ns.sum) H
theorem cr_sumS (hc : X.calm = true) : CallR X (.builtin "sum") (rSumS X.K) := by
  intro pins s σ H vs us Q I r h
  obtain ⟨a, ns, rfl, hs, q⟩ := h
  rcases hs with hs | hs
  · exact cr_sum hc pins s σ H [V.ref a] us Q I r ⟨a, ns, rfl, hs, q⟩
  · obtain ⟨its, rv, ht, _⟩ := I.tuple hs
    rw [Vals.ref1 r]
    have hi := rv.ints
    obtain ⟨xs, e⟩ := hi.allInts.items
    have hn : numsOf (intItems xs).toList = ns := by rw [← e]; exact hi.numsOf
    rw [nums_intItems] at hn
    have ht' : s.heap.IsTuple a its.toArray := ht
    rw [e] at ht'
    refine PySem.W.ktm_sumG (I.ok.hd hc) ht' fun h' tk t' hk => ?_
    refine ⟨.int ns.sum, H, I.kept hk, ⟨t', ?_⟩, q⟩
    rw [preSum_eq, List.take_of_length_le (by simp), hn]
/-- len of a list, a tuple or a text -/
def rLenS (K : PySem.W.Frag) : List V → Hp → VK → Prop := fun xs H Q => (∃ p ys, xs = [.ref p] ∧ (SqL K H p ys ∨ SqT K H p ys) ∧ Q (.int ys.length) H) ∨ ∃ z, xs = [.str z] ∧ z.length ≤ sizeLine ∧ Q (.int z.length) H
theorem call_lenV : CallR X (.builtin "len") (rLenS X.K) := CallR.or call_len_seq call_len_str
/-- list + list, whatever they are (the law's own list, too) -/
def rCatS (K : PySem.W.Frag) : R2 := fun x y H Q => ∃ l b xs zs, x = .ref l ∧ y = .ref b ∧ SqL K H l xs ∧ SqL K H b zs ∧ xs.length + zs.length ≤ sizeLine ∧ ∀ p, H p = none → Q (.ref p) (upd H p (.lst (xs ++ zs)))
theorem op_catS : OpR X (binaryOp .Add) (rCatS X.K) := by
  intro pins s σ H x y v u Q I rx ry h
  obtain ⟨l, b, xs, zs, rfl, rfl, hH, hB, hz, q⟩ := h
  cases rx
  cases ry
  obtain ⟨its, r, p1, hl⟩ := I.list hH
  obtain ⟨its2, r2, p2, hl2⟩ := I.list hB
  obtain ⟨⟨cls, dd, data, sl⟩, ho, hc, n, hd⟩ := p1.isList
  obtain ⟨⟨cls2, dd2, data2, sl2⟩, ho2, hc2, n2, hd2⟩ := p2.isList
  simp only at hc hd hc2 hd2
  subst hc hd hc2 hd2
  have z1 := r.length
  have z2 := r2.length
  refine concat_meets ⟨_, ho, rfl⟩ ⟨_, ho2, rfl⟩ noFill_list_add seq_list_add PySem.F.slot_list_add PySem.F.entry_list_add (PySem.F.args_list_add_2 _ _)
    (list_addW l b its.toArray its2.toArray n n2 dd dd2 sl sl2 (by rw [List.size_toArray, List.size_toArray]; omega)) ⟨ho, ho2, ?_⟩
  have ea : its.toArray ++ its2.toArray = (its ++ its2).toArray := by simp
  rw [ea]
  exact ⟨.ref _, _, I.lnew (t' := s.toks) (r.append r2) (by rw [List.length_append]; omega), rfl, q _ I.fresh⟩
end
section
variable {K : PySem.W.Frag} {σ : L2.St} {H H' : Hp} {ta tb te tx : TE} {t u : TT} {x y z v : V} {r : R2} {d e f : PD} {ds es : List PD} {tl : TA}
theorem rd_catS (hl : ds.length + es.length ≤ 100000) : RD K (rCatS K) (.list ds) (.list es) (.list (ds ++ es)) := fun H v u hv hu Q q => by
  cases hv with
  | @lst a xs _ hs ha =>
    cases hu with
    | @lst b ys _ hs2 ha2 => exact ⟨a, b, xs, ys, rfl, rfl, hs, hs2, Evl.sz_of (by rw [ha.length, ha2.length]; exact hl), newL (ha.append ha2) q⟩
theorem rc_lenL : RcD K (rLenS K) [.list ds] (.int ds.length) := fun H vs hs Q q => by
  cases hs with
  | cons h1 h2 =>
    cases h2
    cases h1 with
    | @lst a xs _ hl ha => exact .inl ⟨a, xs, rfl, .inl hl, q _ H (Ex.refl H) (by rw [ha.length]; exact .int _)⟩
theorem rc_lenT : RcD K (rLenS K) [.tuple ds] (.int ds.length) := fun H vs hs Q q => by
  cases hs with
  | cons h1 h2 =>
    cases h2
    cases h1 with
    | @tup a xs _ hl ha => exact .inl ⟨a, xs, rfl, .inr hl, q _ H (Ex.refl H) (by rw [ha.length]; exact .int _)⟩
theorem rc_lenS {x : Str} (hx : x.length ≤ sizeLine) : RcD K (rLenS K) [.str x] (.int x.length) := fun H vs hs Q q => by
  cases hs with
  | cons h1 h2 =>
    cases h2
    cases h1
    exact .inr ⟨x, rfl, hx, q _ H (Ex.refl H) (.int _)⟩
theorem rc_sumL {ns : List Int} : RcD K (rSumS K) [.list (ns.map PyData.int)] (.int ns.sum) := fun H vs hs Q q => by
  cases hs with
  | cons h1 h2 =>
    cases h2
    cases h1 with
    | @lst a xs _ hl ha =>
      have e := dpa_ints ha
      subst e
      exact ⟨a, ns, rfl, .inl hl, q _ H (Ex.refl H) (.int _)⟩
theorem rc_sumT {ns : List Int} : RcD K (rSumS K) [.tuple (ns.map PyData.int)] (.int ns.sum) := fun H vs hs Q q => by
  cases hs with
  | cons h1 h2 =>
    cases h2
    cases h1 with
    | @tup a xs _ hl ha =>
      have e := dpa_ints ha
      subst e
      exact ⟨a, ns, rfl, .inr hl, q _ H (Ex.refl H) (.int _)⟩
end
/-! ### the rules, the written part named -/
section
variable {X : Cx} (K : PySem.W.Frag) (h : X.K = K)
include h
theorem ix_tupK : IxR X (rIxT K) := by subst h; exact ix_tup
theorem ix_listK : IxR X (rIxL K) := by subst h; exact ix_list
theorem ix_seqK : IxR X (rIx K) := by subst h; exact ix_seq
theorem sl_tupK : SlR X (rSlA K) := by subst h; exact sl_tupA
theorem sl_listK : SlR X (rSlL K) := by subst h; exact sl_list
theorem op_catAK : OpR X (binaryOp .Add) (rCatA K) := by subst h; exact op_catA
theorem op_catSK : OpR X (binaryOp .Add) (rCatS K) := by subst h; exact op_catS
theorem op_in_seqK : OpR X (compareOp .In) (rIn K false) := by subst h; exact op_in_seq
theorem op_notIn_seqK : OpR X (compareOp .NotIn) (rIn K true) := by subst h; exact op_notIn_seq
theorem op_eqDK (hu : X.A.units + 64 < cLine) : OpR X (compareOp .Eq) (rEqD K) := by subst h; exact op_eqD hu
theorem op_neDK (hu : X.A.units + 64 < cLine) : OpR X (compareOp .NotEq) (rNeD K) := by subst h; exact op_neD hu
theorem op_notInDK (hu : X.A.units + 65 < cLine) : OpR X (compareOp .NotIn) (rNotInD K) := by subst h; exact op_notInD hu
theorem op_repTK : OpR X (binaryOp .Mult) (rRepT K) := by subst h; exact op_repT
theorem isi_K : CallR X (.builtin "isinstance") (rIsi K) := by subst h; exact call_isi
theorem call_lenK : CallR X (.builtin "len") (rLenS K) := by subst h; exact call_lenV
theorem cr_allK (hc : X.calm = true) : CallR X (.builtin "all") (rAll K) := by subst h; exact cr_all hc
theorem cr_sumK (hc : X.calm = true) : CallR X (.builtin "sum") (rSumS K) := by subst h; exact cr_sumS hc
theorem call_tupK : CallR X (.type "tuple") (fun xs H Q => ∃ p ys, xs = [.ref p] ∧ ((SqL K H p ys ∧ ∀ l, H l = none → Q (.ref l) (upd H l (.tup ys))) ∨ (SqT K H p ys ∧ Q (.ref p) H))) := by subst h; exact call_tuple_of
theorem call_lstK : CallR X (.type "list") (fun xs H Q => ∃ p ys, xs = [.ref p] ∧ (SqL K H p ys ∨ SqT K H p ys) ∧ ∀ l, H l = none → Q (.ref l) (upd H l (.lst ys))) := by subst h; exact call_list_of
theorem pi_listK {tg l : Expr} {tl : TE} (hl : PE X l tl) : PI X tg l (iList K tl) := by subst h; exact pi_list hl
theorem pi_tupK {tg l : Expr} {tl : TE} (hl : PE X l tl) : PI X tg l (iTup K tl) := by subst h; exact pi_tup hl
theorem pi_enumK {e : Expr} {ta : TA} {p pos tpos : Pos} {elts : List Expr} {kk : Nat} (hg : Gl X "enumerate") (hm : X.mg "enumerate" = none) (ha : PA X [e] ta) (hs : starEach [e] X.env = [(false, eval e X.env)] := by rfl) :
    PI X (.Tuple elts kk tpos) (.Call (.Name "enumerate" p) [e] [] pos) (iEnumS K ta) := by subst h; exact pi_enumS hg hm ha hs
theorem pi_zipK {e e2 : Expr} {ta : TA} {p pos tpos : Pos} {elts : List Expr} {kk : Nat} (hg : Gl X "zip") (hm : X.mg "zip" = none) (ha : PA X [e, e2] ta)
    (hs : starEach [e, e2] X.env = (false, eval e X.env) :: starEach [e2] X.env := by rfl) (hpl : (backTo pos (starEach [e2] X.env)).any (·.1) = false := by rfl) :
    PI X (.Tuple elts kk tpos) (.Call (.Name "zip" p) [e, e2] [] pos) (iZipS K ta) := by subst h; exact pi_zipS hg hm ha hs hpl
end
theorem pg_tupK {X : Cx} (K : PySem.W.Frag) {es : List Expr} {k : Nat} {t : TGs} {pos : Pos} (n : Nat) (h : X.K = K) (hc : X.calm = true) (hs : PGs X es t) (hn : (assignEach es X.env).length = n := by rfl)
    (hst : (assignEach es X.env).findIdx? (fun x => x.1) = none := by rfl) : PG X (.Tuple es k pos) (gTup K n t) := by
  subst h
  exact pg_tup hc hs hn hst
theorem kb_int_int : kitB "int" "int" = some true := by decide +kernel
theorem kb_bool_int : kitB "bool" "int" = some true := by decide +kernel
theorem kb_none_int : kitB "NoneType" "int" = some false := by decide +kernel
theorem kb_str_int : kitB "str" "int" = some false := by decide +kernel
theorem kb_list_int : kitB "list" "int" = some false := by decide +kernel
theorem kb_tuple_int : kitB "tuple" "int" = some false := by decide +kernel
theorem kb_int_bool : kitB "int" "bool" = some false := by decide +kernel
theorem kb_bool_bool : kitB "bool" "bool" = some true := by decide +kernel
theorem kb_none_bool : kitB "NoneType" "bool" = some false := by decide +kernel
theorem kb_str_bool : kitB "str" "bool" = some false := by decide +kernel
theorem kb_list_bool : kitB "list" "bool" = some false := by decide +kernel
theorem kb_tuple_bool : kitB "tuple" "bool" = some false := by decide +kernel
theorem kb_int_str : kitB "int" "str" = some false := by decide +kernel
theorem kb_bool_str : kitB "bool" "str" = some false := by decide +kernel
theorem kb_none_str : kitB "NoneType" "str" = some false := by decide +kernel
theorem kb_str_str : kitB "str" "str" = some true := by decide +kernel
theorem kb_list_str : kitB "list" "str" = some false := by decide +kernel
theorem kb_tuple_str : kitB "tuple" "str" = some false := by decide +kernel
theorem kb_int_list : kitB "int" "list" = some false := by decide +kernel
theorem kb_bool_list : kitB "bool" "list" = some false := by decide +kernel
theorem kb_none_list : kitB "NoneType" "list" = some false := by decide +kernel
theorem kb_str_list : kitB "str" "list" = some false := by decide +kernel
theorem kb_list_list : kitB "list" "list" = some true := by decide +kernel
theorem kb_tuple_list : kitB "tuple" "list" = some false := by decide +kernel
theorem kb_int_tuple : kitB "int" "tuple" = some false := by decide +kernel
theorem kb_bool_tuple : kitB "bool" "tuple" = some false := by decide +kernel
theorem kb_none_tuple : kitB "NoneType" "tuple" = some false := by decide +kernel
theorem kb_str_tuple : kitB "str" "tuple" = some false := by decide +kernel
theorem kb_list_tuple : kitB "list" "tuple" = some false := by decide +kernel
theorem kb_tuple_tuple : kitB "tuple" "tuple" = some true := by decide +kernel
/-! ### isinstance of data -/
def tyOf : PD → String
  | .none => "NoneType"
  | .bool _ => "bool"
  | .int _ => "int"
  | .str _ => "str"
  | .list _ => "list"
  | .tuple _ => "tuple"
  | .dict _ => "dict"
theorem tyx_dp {K : PySem.W.Frag} {H : Hp} {v : V} {d : PD} (h : Dp K H v d) : TyX K H v (.type (tyOf d)) := by
  cases h with
  | non => exact .base .non
  | bl b => exact .base (.bl b)
  | int i => exact .base (.int i)
  | str x => exact .base (.str x)
  | @lst a xs ds hs _ =>
    rcases hs with (hs | ⟨o, hs⟩) | ⟨o, its, n, ho, hc, _⟩
    · exact .base (.lst hs)
    · exact .base (.frz hs)
    · exact .kList ho hc
  | @tup a xs ds hs _ =>
    rcases hs with (hs | ⟨o, hs⟩) | ⟨o, its, n, ho, hc, _⟩
    · exact .base (.tup hs)
    · exact .fTuple hs
    · exact .kTuple ho hc
def isA (d : PD) (T : String) : Bool := match T with
  | "int" => (match d with | .int _ => true | .bool _ => true | _ => false)
  | T => tyOf d == T
theorem rc_isa {K : PySem.W.Frag} {d : PD} {T : String} {b : Bool} (hk : PySem.W.kitOne K (.type (tyOf d)) (.type T) = some b) {σ : L2.St} {H : Hp} {ta : TE} (h : EvD K ta σ H d) : EvD K (tCB (rIsi K) (tCons ta (tCons (tC (.ty T)) tNil))) σ H (.bool b) := fun H1 e Q q =>
  h H1 e _ fun v H2 e2 hv => ⟨v, .ty T, .type (tyOf d), .type T, b, rfl, .ty T, tyx_dp hv, hk, q _ H2 e2 (.bl b)⟩
/-! ### what is walked -/
structure ItD (K : PySem.W.Frag) (J : It) (At : Hp → Prop) (ds : List PD) : Prop where
  go : ∀ i H, At H → i < ds.length → J.go i H
  yld : ∀ i H x H', At H → i < ds.length → J.yld i H x H' → ∃ d, ds[i]? = some d ∧ Ex H H' ∧ Dp K H' x d
  stop : ∀ H, At H → J.stop ds.length H
  mono : ∀ H H', Ex H H' → At H → At H'
/-- .. known in H -/
def EvI0 (K : PySem.W.Frag) (wi : TI) (σ : L2.St) (H : Hp) (ds : List PD) : Prop := ∃ At : Hp → Prop, At H ∧ ∀ H1, Ex H H1 → ∀ R : It → Hp → Prop, (∀ J H2, Ex H1 H2 → ItD K J At ds → R J H2) → wi σ H1 R
/-- .. perhaps made on the way -/
def EvI (K : PySem.W.Frag) (wi : TI) (σ : L2.St) (H : Hp) (ds : List PD) : Prop := ∀ H1, Ex H H1 → ∀ R : It → Hp → Prop, (∀ J H2 (At : Hp → Prop), Ex H1 H2 → ItD K J At ds → At H2 → R J H2) → wi σ H1 R
section
variable {K : PySem.W.Frag} {σ : L2.St} {H H' : Hp} {ta tb te tx : TE} {t u : TT} {x y z v : V} {r : R2} {d e f : PD} {ds es : List PD} {tl : TA} {wi : TI}
theorem EvI0.evI (h : EvI0 K wi σ H ds) : EvI K wi σ H ds := by
  obtain ⟨At, h0, hi⟩ := h
  exact fun H1 e R k => hi H1 e R fun J H2 e2 D => k J H2 At e2 D (D.mono _ _ (e.trans e2) h0)
theorem EvI.mono (h : EvI K wi σ H ds) (e : Ex H H') : EvI K wi σ H' ds := fun H1 a R k => h H1 (e.trans a) R k
theorem itd_list (a : Addr) (ds : List PD) : ItD K (Itl K a) (fun H => ∃ xs, SqL K H a xs ∧ DpAll K H xs ds) ds where
  go := fun i H ⟨xs, hs, ha⟩ hi => by
    obtain ⟨v, hv, _⟩ := ha.get (List.getElem?_eq_getElem hi)
    exact ⟨xs, v, hs, hv⟩
  yld := fun i H x H' ⟨xs, hs, ha⟩ _ ⟨e, y⟩ => by
    subst e
    obtain ⟨d, hd, dx⟩ := ha.getV (y xs hs)
    exact ⟨d, hd, Ex.refl _, dx⟩
  stop := fun H ⟨xs, hs, ha⟩ => ⟨xs, hs, by rw [ha.length]; exact Nat.le_refl _⟩
  mono := fun H H' e ⟨xs, hs, ha⟩ => ⟨xs, ex_l e hs, Dpam ha e⟩
theorem itd_tup (a : Addr) (ds : List PD) : ItD K (Itt K a) (fun H => ∃ xs, SqT K H a xs ∧ DpAll K H xs ds) ds where
  go := fun i H ⟨xs, hs, ha⟩ hi => by
    obtain ⟨v, hv, _⟩ := ha.get (List.getElem?_eq_getElem hi)
    exact ⟨xs, v, hs, hv⟩
  yld := fun i H x H' ⟨xs, hs, ha⟩ _ ⟨e, y⟩ => by
    subst e
    obtain ⟨d, hd, dx⟩ := ha.getV (y xs hs)
    exact ⟨d, hd, Ex.refl _, dx⟩
  stop := fun H ⟨xs, hs, ha⟩ => ⟨xs, hs, by rw [ha.length]; exact Nat.le_refl _⟩
  mono := fun H H' e ⟨xs, hs, ha⟩ => ⟨xs, ex_t e hs, Dpam ha e⟩
def signsD (x : Str) : List PD := x.cps.toList.map fun c => PyData.str ⟨#[c]⟩
theorem signsD_get {x : Str} {i c : Nat} (h : x.cps[i]? = some c) : (signsD x)[i]? = some (PyData.str ⟨#[c]⟩) := by
  unfold signsD
  rw [List.getElem?_map, Array.getElem?_toList, h]
  rfl
theorem signsD_len (x : Str) : (signsD x).length = x.cps.size := by simp [signsD]
theorem dpa_signs {x : Str} : DpAll K H (signs x) (signsD x) := by
  have h := dpa_of_strs (K := K) (H := H) (ns := x.cps.toList.map fun c => (⟨#[c]⟩ : Str))
  rw [List.map_map, List.map_map] at h
  exact h
theorem itd_str (x : Str) : ItD K (Its x) (fun _ => True) (signsD x) where
  go := fun i H _ hi => by rw [signsD_len] at hi; exact hi
  yld := fun i H v H' _ _ ⟨e, c, hc, hv⟩ => by
    subst e hv
    exact ⟨_, signsD_get hc, Ex.refl _, .str _⟩
  stop := fun H _ => by rw [signsD_len]; exact Nat.le_refl _
  mono := fun _ _ _ _ => True.intro
def rangeD (lo : Int) (n : Nat) : List PD := (List.range n).map fun k => PyData.int (lo + (k : Nat))
theorem rangeD_len (lo : Int) (n : Nat) : (rangeD lo n).length = n := by simp [rangeD]
theorem rangeD_get {lo : Int} {n i : Nat} (h : i < n) : (rangeD lo n)[i]? = some (.int (lo + (i : Nat))) := by
  unfold rangeD
  rw [List.getElem?_map, List.getElem?_range h]
  rfl
theorem itd_range (lo : Int) (n : Nat) : ItD K (Itr lo n) (fun _ => True) (rangeD lo n) where
  go := fun i H _ hi => by rw [rangeD_len] at hi; exact hi
  yld := fun i H v H' _ hi ⟨e, hv⟩ => by
    subst e hv
    rw [rangeD_len] at hi
    exact ⟨_, rangeD_get hi, Ex.refl _, .int _⟩
  stop := fun H _ => by rw [rangeD_len]; exact Nat.le_refl _
  mono := fun _ _ _ _ => True.intro
/-- a source's data -/
def SrcD (K : PySem.W.Frag) (src : Src) (ds : List PD) (H : Hp) : Prop := ∃ xs, SrcAt K H src xs ∧ DpAll K H xs ds
theorem SrcD.mono {src : Src} (e : Ex H H') (h : SrcD K src ds H) : SrcD K src ds H' := let ⟨xs, a, b⟩ := h; ⟨xs, a.mono e, Dpam b e⟩
def enumD (k : Nat) : List PD → List PD
  | [] => []
  | d :: ds => .tuple [.int (k : Nat), d] :: enumD (k + 1) ds
theorem enumD_len : ∀ (k : Nat) (ds : List PD), (enumD k ds).length = ds.length
  | _, [] => rfl
  | k, _ :: ds => congrArg (· + 1) (enumD_len (k + 1) ds)
theorem enumD_get : ∀ (k : Nat) (ds : List PD) (i : Nat) (d : PD), ds[i]? = some d → (enumD k ds)[i]? = some (.tuple [.int ((k + i : Nat) : Int), d])
  | _, [], _, _, h => by simp at h
  | k, _ :: ds, 0, d, h => by simp at h; subst h; rfl
  | k, _ :: ds, i + 1, d, h => by
    have := enumD_get (k + 1) ds i d (by simpa using h)
    rw [show k + 1 + i = k + (i + 1) from by omega] at this
    exact this
theorem itd_enum (src : Src) (ds : List PD) : ItD K (ItE K src) (SrcD K src ds) (enumD 0 ds) where
  go := fun i H ⟨xs, hs, ha⟩ hi => by
    rw [enumD_len] at hi
    obtain ⟨v, hv, _⟩ := ha.get (List.getElem?_eq_getElem hi)
    exact ⟨xs, v, hs, hv⟩
  yld := fun i H v H' ⟨xs, hs, ha⟩ hi ⟨T, x, ev, hT, eH, y⟩ => by
    subst ev eH
    obtain ⟨d, hd, dx⟩ := ha.getV (y xs hs)
    have g := enumD_get 0 ds i d hd
    rw [Nat.zero_add] at g
    exact ⟨_, g, Ex.new hT, .tup (.of upd_same) (.cons (.int _) (.one (Dpm dx (Ex.new hT))))⟩
  stop := fun H ⟨xs, hs, ha⟩ => ⟨xs, hs, by rw [enumD_len, ha.length]⟩
  mono := fun H H' e h => h.mono e
def zipD : List PD → List PD → List PD
  | d :: ds, e :: es => .tuple [d, e] :: zipD ds es
  | _, _ => []
theorem zipD_len : ∀ (ds es : List PD), (zipD ds es).length = min ds.length es.length
  | [], _ => by simp [zipD]
  | _ :: _, [] => by simp [zipD]
  | _ :: ds, _ :: es => by
    show (zipD ds es).length + 1 = _
    rw [zipD_len ds es, List.length_cons, List.length_cons]
    omega
theorem zipD_get : ∀ (ds es : List PD) (i : Nat) (d e : PD), ds[i]? = some d → es[i]? = some e → (zipD ds es)[i]? = some (.tuple [d, e])
  | [], _, _, _, _, h, _ => by simp at h
  | _ :: _, [], _, _, _, _, h => by simp at h
  | _ :: ds, _ :: es, 0, d, e, h, h2 => by simp at h h2; subst h h2; rfl
  | _ :: ds, _ :: es, i + 1, d, e, h, h2 => zipD_get ds es i d e (by simpa using h) (by simpa using h2)
theorem itd_zip (s1 s2 : Src) (ds es : List PD) : ItD K (ItZ K s1 s2) (fun H => SrcD K s1 ds H ∧ SrcD K s2 es H) (zipD ds es) where
  go := fun i H ⟨⟨xs, hs, ha⟩, ⟨ys, hs2, ha2⟩⟩ hi => by
    rw [zipD_len] at hi
    obtain ⟨v, hv, _⟩ := ha.get (List.getElem?_eq_getElem (show i < ds.length by omega))
    obtain ⟨u, hu, _⟩ := ha2.get (List.getElem?_eq_getElem (show i < es.length by omega))
    exact ⟨xs, ys, v, u, hs, hs2, hv, hu⟩
  yld := fun i H v H' ⟨⟨xs, hs, ha⟩, ⟨ys, hs2, ha2⟩⟩ hi ⟨T, x, y, ev, hT, eH, y1, y2⟩ => by
    subst ev eH
    obtain ⟨d, hd, dx⟩ := ha.getV (y1 xs hs)
    obtain ⟨e, he, dy⟩ := ha2.getV (y2 ys hs2)
    exact ⟨_, zipD_get ds es i d e hd he, Ex.new hT, .tup (.of upd_same) (.cons (Dpm dx (Ex.new hT)) (.one (Dpm dy (Ex.new hT))))⟩
  stop := fun H ⟨⟨xs, hs, ha⟩, ⟨ys, hs2, ha2⟩⟩ => by
    have l1 := ha.length
    have l2 := ha2.length
    exact ⟨xs, ys, hs, hs2, by rw [zipD_len]; omega, by rw [zipD_len]; omega, by rw [zipD_len]; omega⟩
  mono := fun H H' e h => ⟨h.1.mono e, h.2.mono e⟩
/-! what an iterable's reading gives -/
theorem ei0_list {i : Nat} (h : σ[i]? = some (some v)) (hd : Dp K H v (.list ds)) : EvI0 K (iList K (tVar i)) σ H ds := by
  cases hd with
  | @lst a xs _ hs ha =>
    exact ⟨_, ⟨xs, hs, ha⟩, fun H1 e R k => ⟨_, h, a, rfl, ⟨xs, ex_l e hs⟩, k _ H1 (Ex.refl H1) (itd_list a ds)⟩⟩
theorem ei0_tup {i : Nat} (h : σ[i]? = some (some v)) (hd : Dp K H v (.tuple ds)) : EvI0 K (iTup K (tVar i)) σ H ds := by
  cases hd with
  | @tup a xs _ hs ha =>
    exact ⟨_, ⟨xs, hs, ha⟩, fun H1 e R k => ⟨_, h, a, rfl, ⟨xs, ex_t e hs⟩, k _ H1 (Ex.refl H1) (itd_tup a ds)⟩⟩
theorem ei0_str {x : Str} (h : EvD K te σ H (.str x)) : EvI0 K (iStr te) σ H (signsD x) :=
  ⟨_, True.intro, fun H1 e R k => h H1 e _ fun v H2 e2 hv => by
    cases hv
    exact ⟨x, rfl, k _ H2 e2 (itd_str x)⟩⟩
theorem ei_list (h : EvD K te σ H (.list ds)) : EvI K (iList K te) σ H ds := fun H1 e R k => h H1 e _ fun v H2 e2 hv => by
  cases hv with
  | @lst a xs _ hs ha => exact ⟨a, rfl, ⟨xs, hs⟩, k _ H2 _ e2 (itd_list a ds) ⟨xs, hs, ha⟩⟩
theorem ei_tup (h : EvD K te σ H (.tuple ds)) : EvI K (iTup K te) σ H ds := fun H1 e R k => h H1 e _ fun v H2 e2 hv => by
  cases hv with
  | @tup a xs _ hs ha => exact ⟨a, rfl, ⟨xs, hs⟩, k _ H2 _ e2 (itd_tup a ds) ⟨xs, hs, ha⟩⟩
theorem ei0_r1 {n : Int} (h : EvS K tl σ H [.int n]) (hn : 0 ≤ n ∧ n ≤ 100000) : EvI0 K (iRng1 tl) σ H (rangeD 0 n.toNat) :=
  ⟨_, True.intro, fun H1 e R k => h H1 e _ fun vs H2 e2 hs => by
    cases hs with
    | cons h1 h2 =>
      cases h1
      cases h2
      exact ⟨n, rfl, by omega, by omega, k _ H2 e2 (itd_range 0 n.toNat)⟩⟩
theorem ei0_r2 {i j : Int} (h : EvS K tl σ H [.int i, .int j]) (hn : 0 ≤ i ∧ i ≤ 100000 ∧ 0 ≤ j ∧ j ≤ 100000) : EvI0 K (iRng2 tl) σ H (rangeD i (j - i).toNat) :=
  ⟨_, True.intro, fun H1 e R k => h H1 e _ fun vs H2 e2 hs => by
    cases hs with
    | cons h1 h2 =>
      cases h2 with
      | cons h2 h3 =>
        cases h1
        cases h2
        cases h3
        exact ⟨i, j, rfl, ⟨by omega, by omega, by omega, by omega⟩, k _ H2 e2 (itd_range i (j - i).toNat)⟩⟩
/-- what a value is as a source -/
inductive IsSrc : PD → List PD → Prop where
  | lst (ds : List PD) : IsSrc (.list ds) ds
  | tup (ds : List PD) : IsSrc (.tuple ds) ds
  | txt (x : Str) : IsSrc (.str x) (signsD x)
theorem IsSrc.at (h : IsSrc d ds) (hv : Dp K H v d) : ∃ src, v = srcV src ∧ SrcD K src ds H := by
  cases h with
  | lst ds =>
    cases hv with
    | @lst a xs _ hs ha => exact ⟨.lst a, rfl, xs, hs, ha⟩
  | tup ds =>
    cases hv with
    | @tup a xs _ hs ha => exact ⟨.tup a, rfl, xs, hs, ha⟩
  | txt x =>
    cases hv
    exact ⟨.txt x, rfl, signs x, rfl, dpa_signs⟩
theorem ei_enum (h : EvS K tl σ H [d]) (hs : IsSrc d ds) : EvI K (iEnumS K tl) σ H (enumD 0 ds) := fun H1 e R k => h H1 e _ fun vs H2 e2 hv => by
  cases hv with
  | cons h1 h2 =>
    cases h2
    obtain ⟨src, rfl, xs, hx, ha⟩ := hs.at h1
    exact ⟨src, xs, rfl, hx, k _ H2 _ e2 (itd_enum src ds) ⟨xs, hx, ha⟩⟩
theorem ei_zip (h : EvS K tl σ H [d, e]) (hs : IsSrc d ds) (hs2 : IsSrc e es) : EvI K (iZipS K tl) σ H (zipD ds es) := fun H1 e R k => h H1 e _ fun vs H2 e2 hv => by
  cases hv with
  | cons h1 h2 =>
    cases h2 with
    | cons h2 h3 =>
      cases h3
      obtain ⟨s1, rfl, xs, hx, ha⟩ := hs.at h1
      obtain ⟨s2, rfl, ys, hy, ha2⟩ := hs2.at h2
      exact ⟨s1, s2, xs, ys, rfl, hx, hy, k _ H2 _ e2 (itd_zip s1 s2 ds es) ⟨⟨xs, hx, ha⟩, ⟨ys, hy, ha2⟩⟩⟩
/-! ### comprehensions -/
/-- g: what the target's store and all behind it want, for an item that is d -/
theorem ed_lcG {g : TG} {vs : List Nat} (f : PD → Bool) (w : PD → PD) (hi : EvI K wi σ H ds) (hn : ds.length ≤ 100000) (ht : ∀ d ∈ ds, f d = true → tupOnly (w d) = true)
    (hb : ∀ d ∈ ds, ∀ x H1, Ex H H1 → Dp K H1 x d → ∀ Qt : L2.St → Hp → Prop,
      (∀ σ2 H2, Ex H1 H2 → wipe σ2 vs = wipe σ vs → EvT t σ2 H2 (f d) → (f d = true → EvD K te σ2 H2 (w d)) → Qt σ2 H2) → g x (wipe σ vs) H1 Qt) :
    EvD K (tLc wi g t te vs) σ H (.list ((ds.filter f).map w)) := fun H1 e1 Q q =>
  hi H1 e1 _ fun J H2 At e2 D a2 => fun Dl hD => by
    have tk : ∀ i d, ds[i]? = some d → ((ds.take (i + 1)).filter f).map w = ((ds.take i).filter f).map w ++ (if f d = true then [w d] else []) := fun i d h => by
      rw [List.take_add_one, h, List.filter_append, List.map_append]
      congr 1
      cases hf : f d <;> simp [hf]
    refine ⟨fun i m H' => m = ds.length - i ∧ i ≤ ds.length ∧ Ex H2 H' ∧ ∃ acc, H' Dl = some (.lst acc) ∧ DpAll K H' acc (((ds.take i).filter f).map w), ⟨_, rfl, Nat.zero_le _, Ex.new hD, [], upd_same, by rw [List.take_zero]; exact .nil⟩, ?_⟩
    rintro i m H' ⟨rfl, hle, e3, acc, hacc, ha⟩
    by_cases hlt : i < ds.length
    · refine .inr ⟨D.go i H' (D.mono _ _ e3 a2) hlt, fun H' => i + 1 ≤ ds.length ∧ Ex H2 H' ∧ ∃ acc, H' Dl = some (.lst acc) ∧ DpAll K H' acc (((ds.take (i + 1)).filter f).map w), fun H' ⟨p1, p2, p3⟩ => ⟨ds.length - (i + 1), by omega, rfl, p1, p2, p3⟩, fun x H4 y => ?_⟩
      obtain ⟨d, hd, e4, dx⟩ := D.yld i H' x H4 (D.mono _ _ e3 a2) hlt y
      have hdm : d ∈ ds := List.mem_of_getElem? hd
      refine hb d hdm x H4 (((e1.trans e2).trans e3).trans e4) dx _ fun σ2 H5 e5 hw ht5 he5 => ⟨hw, ht5 H5 (Ex.refl H5) _ fun H6 e6 => ?_⟩
      have eA := (e4.trans e5).trans e6
      cases hf : f d with
      | true =>
        show te σ2 H6 _
        refine he5 hf H6 e6 _ fun z H7 e7 hz => ⟨acc, (eA.trans e7) _ _ hacc, ?_, by omega, Evl.Ex.mut (e3.trans (eA.trans e7)) hD, acc ++ [z], upd_same, ?_⟩
        · have h1 := ha.length
          rw [List.length_map] at h1
          have h2 := List.length_filter_le f (ds.take i)
          rw [List.length_take] at h2
          exact Evl.sz_lt (by omega)
        · rw [tk i d hd, if_pos hf]
          have xb := ExB.upd (o := .lst (acc ++ [z])) ((eA.trans e7) _ _ hacc)
          refine dpa_b xb _ _ ?_ ((Dpam ha (eA.trans e7)).append (.one hz))
          have c1 : tupOnlyAll (((ds.take i).filter f).map w) = true := tupOnlyAll_map fun d' hd' => by
            have m := List.mem_filter.mp hd'
            exact ht d' (List.mem_of_mem_take m.1) m.2
          have c2 := ht d hdm hf
          have app : ∀ l : List PD, tupOnlyAll l = true → tupOnlyAll (l ++ [w d]) = true := fun l hl => by
            induction l with
            | nil => exact Bool.and_eq_true_iff.mpr ⟨c2, rfl⟩
            | cons a l ih =>
              have z := Bool.and_eq_true_iff.mp hl
              exact Bool.and_eq_true_iff.mpr ⟨z.1, ih z.2⟩
          exact app _ c1
      | false =>
        show i + 1 ≤ ds.length ∧ Ex H2 H6 ∧ _
        refine ⟨by omega, e3.trans eA, acc, eA _ _ hacc, ?_⟩
        rw [tk i d hd, if_neg (by rw [hf]; decide), List.append_nil]
        exact Dpam ha eA
    · obtain rfl : i = ds.length := by omega
      refine .inl ⟨D.stop H' (D.mono _ _ e3 a2), q _ H' (e2.trans e3) (.lst (.of hacc) ?_)⟩
      rw [List.take_length] at ha
      exact ha
/-- the target is a name -/
theorem ed_lc {j : Nat} {vs : List Nat} (f : PD → Bool) (w : PD → PD) (hi : EvI K wi σ H ds) (hn : ds.length ≤ 100000) (hw : ∀ x, wipe ((wipe σ vs).set j (some x)) vs = wipe σ vs) (ht : ∀ d ∈ ds, f d = true → tupOnly (w d) = true)
    (h1 : ∀ d ∈ ds, ∀ x H1, Ex H H1 → Dp K H1 x d → EvT t ((wipe σ vs).set j (some x)) H1 (f d)) (h2 : ∀ d ∈ ds, f d = true → ∀ x H1, Ex H H1 → Dp K H1 x d → EvD K te ((wipe σ vs).set j (some x)) H1 (w d)) :
    EvD K (tLc wi (gName j) t te vs) σ H (.list ((ds.filter f).map w)) :=
  ed_lcG f w hi hn ht fun d hd x H1 e dx Qt k => k _ H1 (Ex.refl H1) (hw x) (h1 d hd x H1 e dx) fun hf => h2 d hd hf x H1 e dx
theorem et_yes : EvT tYes σ H true := fun H1 _ _ q => q H1 (Ex.refl H1)
/-- .. and no test -/
theorem ed_lcM {j : Nat} {vs : List Nat} (w : PD → PD) (hi : EvI K wi σ H ds) (hn : ds.length ≤ 100000) (hw : ∀ x, wipe ((wipe σ vs).set j (some x)) vs = wipe σ vs) (ht : ∀ d ∈ ds, tupOnly (w d) = true)
    (h2 : ∀ d ∈ ds, ∀ x H1, Ex H H1 → Dp K H1 x d → EvD K te ((wipe σ vs).set j (some x)) H1 (w d)) :
    EvD K (tLc wi (gName j) tYes te vs) σ H (.list (ds.map w)) := by
  have h := ed_lc (t := tYes) (fun _ => true) w hi hn hw (fun d hd _ => ht d hd) (fun _ _ _ _ _ _ => et_yes) fun d hd _ => h2 d hd
  have e : ds.filter (fun _ => true) = ds := List.filter_eq_self.mpr fun _ _ => rfl
  rw [e] at h
  exact h
/-- the target is a pair of names -/
theorem ed_lc2 {j1 j2 : Nat} {vs : List Nat} (f : PD → Bool) (w : PD → PD) (hi : EvI K wi σ H ds) (hn : ds.length ≤ 100000) (hp : ∀ d ∈ ds, ∃ d1 d2, d = .tuple [d1, d2]) (hw : ∀ x y, wipe (((wipe σ vs).set j1 (some x)).set j2 (some y)) vs = wipe σ vs)
    (ht : ∀ d ∈ ds, f d = true → tupOnly (w d) = true)
    (h1 : ∀ d1 d2, PyData.tuple [d1, d2] ∈ ds → ∀ x y H1, Ex H H1 → Dp K H1 x d1 → Dp K H1 y d2 → EvT t (((wipe σ vs).set j1 (some x)).set j2 (some y)) H1 (f (.tuple [d1, d2])))
    (h2 : ∀ d1 d2, PyData.tuple [d1, d2] ∈ ds → f (.tuple [d1, d2]) = true → ∀ x y H1, Ex H H1 → Dp K H1 x d1 → Dp K H1 y d2 → EvD K te (((wipe σ vs).set j1 (some x)).set j2 (some y)) H1 (w (.tuple [d1, d2]))) :
    EvD K (tLc wi (gTup K 2 (gCons (gName j1) (gCons (gName j2) gNil))) t te vs) σ H (.list ((ds.filter f).map w)) :=
  ed_lcG f w hi hn ht fun d hd x H1 e dx Qt k => by
    obtain ⟨d1, d2, rfl⟩ := hp d hd
    cases dx with
    | @tup a xs _ hs ha =>
      cases ha with
      | @cons x1 _ _ _ a1 ha =>
        cases ha with
        | @cons x2 _ _ _ a2 ha =>
          cases ha
          exact ⟨a, [x1, x2], rfl, hs, rfl, x1, [x2], rfl, x2, [], rfl, rfl, k _ H1 (Ex.refl H1) (hw x1 x2) (h1 d1 d2 hd x1 x2 H1 e a1 a2) fun hf => h2 d1 d2 hd hf x1 x2 H1 e a1 a2⟩
/-! ### statements -/
variable {D : Ends} {tu tw : TS} {g : TG}
theorem sd_set {i : Nat} (h : EvD K te σ H d) (k : ∀ v H1, Ex H H1 → Dp K H1 v d → D.nx (σ.set i (some v)) H1) : tAsg te (gName i) D σ H := h H (Ex.refl H) _ k
theorem sd_ret (h : EvD K te σ H d) (k : ∀ v H1, Ex H H1 → Dp K H1 v d → D.rt v H1) : tRet te D σ H := h H (Ex.refl H) _ k
theorem sd_if {b : Bool} (h : EvT t σ H b) (h1 : b = true → ∀ H1, Ex H H1 → tu D σ H1) (h2 : b = false → ∀ H1, Ex H H1 → tw D σ H1) : tIfS t tu tw D σ H := Evl.s_if h h1 h2
theorem sd_par {i j : Nat} (h : EvS K tl σ H [d, e]) (k : ∀ v w H1, Ex H H1 → Dp K H1 v d → Dp K H1 w e → D.nx ((σ.set i (some v)).set j (some w)) H1) : tPar i j tl D σ H := h H (Ex.refl H) _ fun vs H1 e1 hs => by
  cases hs with
  | cons h1 h2 =>
    cases h2 with
    | cons h2 h3 =>
      cases h3
      exact ⟨_, _, rfl, k _ _ H1 e1 h1 h2⟩
/-- xs.append(e), the list exactly known -/
theorem sd_app {l : Addr} {xs : List V} (ha : EvD K te σ H d) {i : Nat} (hi : σ[i]? = some (some (.ref l))) (hl : H l = some (.lst xs)) (hz : xs.length < 100000)
    (k : ∀ v H1, Ex H H1 → Dp K H1 v d → D.nx σ (upd H1 l (.lst (xs ++ [v])))) : tDrop (tBM K "list" rAppend (tVar i) (tCons te tNil)) D σ H :=
  ⟨_, hi, .inl ⟨rfl, xs, .of hl⟩, ha H (Ex.refl H) _ fun v H1 e1 hv => ⟨l, xs, v, rfl, rfl, e1 l _ hl, Evl.sz_lt hz, k v H1 e1 hv⟩⟩
/-- a for: the iterable known in Hb -/
theorem sd_for0 {Hb : Hp} (eb : Ex Hb H) (hi : EvI0 K wi σ Hb ds) (Pv : Nat → L2.St → Hp → Prop) (h0 : ∀ H1, Ex H H1 → Pv 0 σ H1) (ex : ∀ i σ' H', Pv i σ' H' → Ex Hb H')
    (hs : ∀ i d x σ' H' H1, ds[i]? = some d → Pv i σ' H' → Ex H' H1 → Dp K H1 x d → g x σ' H1 fun σ2 H2 => tu { D with nx := Pv (i + 1), ct := Pv (i + 1), bk := D.nx } σ2 H2) (hd : ∀ σ' H', Pv ds.length σ' H' → D.nx σ' H') : tFor wi g tu D σ H := by
  obtain ⟨At, a0, hi⟩ := hi
  refine hi H eb _ fun J H2 e2 Dj => ⟨fun i m σ' H' => m = ds.length - i ∧ i ≤ ds.length ∧ Pv i σ' H', ⟨_, rfl, Nat.zero_le _, h0 H2 e2⟩, ?_⟩
  rintro i m σ' H' ⟨rfl, hle, p⟩
  have aH := Dj.mono _ _ (ex i σ' H' p) a0
  by_cases hlt : i < ds.length
  · refine .inr ⟨Dj.go i H' aH hlt, Pv (i + 1), fun σ2 H2 p' => ⟨ds.length - (i + 1), by omega, rfl, by omega, p'⟩, fun x H4 y => ?_⟩
    obtain ⟨d, hd, e4, dx⟩ := Dj.yld i H' x H4 aH hlt y
    exact hs i d x σ' H' H4 hd p e4 dx
  · obtain rfl : i = ds.length := by omega
    exact .inl ⟨Dj.stop H' aH, hd σ' H' p⟩
/-- a for: the iterable made on the way -/
theorem sd_for (hi : EvI K wi σ H ds) (Pv : Hp → Nat → L2.St → Hp → Prop) (h0 : ∀ H1, Ex H H1 → Pv H1 0 σ H1) (ex : ∀ Hb i σ' H', Pv Hb i σ' H' → Ex Hb H')
    (hs : ∀ Hb i d x σ' H' H1, Ex H Hb → ds[i]? = some d → Pv Hb i σ' H' → Ex H' H1 → Dp K H1 x d → g x σ' H1 fun σ2 H2 => tu { D with nx := Pv Hb (i + 1), ct := Pv Hb (i + 1), bk := D.nx } σ2 H2) (hd : ∀ Hb σ' H', Ex H Hb → Pv Hb ds.length σ' H' → D.nx σ' H') : tFor wi g tu D σ H := by
  refine hi H (Ex.refl H) _ fun J Hb At eb Dj ab => ⟨fun i m σ' H' => m = ds.length - i ∧ i ≤ ds.length ∧ Pv Hb i σ' H', ⟨_, rfl, Nat.zero_le _, h0 Hb eb⟩, ?_⟩
  rintro i m σ' H' ⟨rfl, hle, p⟩
  have aH := Dj.mono _ _ (ex Hb i σ' H' p) ab
  by_cases hlt : i < ds.length
  · refine .inr ⟨Dj.go i H' aH hlt, Pv Hb (i + 1), fun σ2 H2 p' => ⟨ds.length - (i + 1), by omega, rfl, by omega, p'⟩, fun x H4 y => ?_⟩
    obtain ⟨d, hd, e4, dx⟩ := Dj.yld i H' x H4 aH hlt y
    exact hs Hb i d x σ' H' H4 eb hd p e4 dx
  · obtain rfl : i = ds.length := by omega
    exact .inl ⟨Dj.stop H' aH, hd Hb σ' H' eb p⟩
/-! the same, something behind -/
variable {tz : TS}
theorem sq_set {i : Nat} (h : EvD K te σ H d) (k : ∀ v H1, Ex H H1 → Dp K H1 v d → tz D (σ.set i (some v)) H1) : tSeq (tAsg te (gName i)) tz D σ H := sd_set (D := { D with nx := tz D }) h k
theorem sq_if {b : Bool} (h : EvT t σ H b) (h1 : b = true → ∀ H1, Ex H H1 → tu { D with nx := tz D } σ H1) (h2 : b = false → ∀ H1, Ex H H1 → tw { D with nx := tz D } σ H1) : tSeq (tIfS t tu tw) tz D σ H := sd_if (D := { D with nx := tz D }) h h1 h2
/-- an if without else that stores one name: what it holds behind -/
theorem sq_ifSet {b : Bool} {i : Nat} {d1 d2 : PD} {v0 : V} (h : EvT t σ H b) (hσ : σ[i]? = some (some v0)) (h0 : Dp K H v0 d2) (h1 : b = true → ∀ H1, Ex H H1 → EvD K te σ H1 d1) (k : ∀ v H1, Ex H H1 → Dp K H1 v (if b = true then d1 else d2) → tz D (σ.set i (some v)) H1) :
    tSeq (tIfS t (tAsg te (gName i)) tNext) tz D σ H := sq_if h (fun hb H1 e1 => sd_set (D := { D with nx := tz D }) (h1 hb H1 e1) fun v H2 e2 hv => k v H2 (e1.trans e2) (by rw [if_pos hb]; exact hv)) (fun hb H1 e1 => by
      show tz D σ H1
      have e : σ.set i (some v0) = σ := by
        apply List.ext_getElem?
        intro j
        by_cases hj : i = j
        · subst hj
          have hl := (List.getElem?_eq_some_iff.mp hσ).1
          rw [List.getElem?_set_self hl, hσ]
        · rw [List.getElem?_set_ne hj]
      have g := k v0 H1 e1 (by rw [if_neg (by rw [hb]; decide)]; exact Dpm h0 e1)
      rw [e] at g
      exact g)
/-- an if that leaves -/
theorem sq_ifRet {b : Bool} (h : EvT t σ H b) (h1 : b = true → ∀ H1, Ex H H1 → tu { D with nx := tz D } σ H1) (h2 : b = false → ∀ H1, Ex H H1 → tz D σ H1) : tSeq (tIfS t tu tNext) tz D σ H := sq_if h h1 h2
theorem sq_par {i j : Nat} (h : EvS K tl σ H [d, e]) (k : ∀ v w H1, Ex H H1 → Dp K H1 v d → Dp K H1 w e → tz D ((σ.set i (some v)).set j (some w)) H1) : tSeq (tPar i j tl) tz D σ H := sd_par (D := { D with nx := tz D }) h k
theorem sq_app {l : Addr} {xs : List V} (ha : EvD K te σ H d) {i : Nat} (hi : σ[i]? = some (some (.ref l))) (hl : H l = some (.lst xs)) (hz : xs.length < 100000)
    (k : ∀ v H1, Ex H H1 → Dp K H1 v d → tz D σ (upd H1 l (.lst (xs ++ [v])))) : tSeq (tDrop (tBM K "list" rAppend (tVar i) (tCons te tNil))) tz D σ H := sd_app (D := { D with nx := tz D }) ha hi hl hz k
theorem sq_for0 {Hb : Hp} (eb : Ex Hb H) (hi : EvI0 K wi σ Hb ds) (Pv : Nat → L2.St → Hp → Prop) (h0 : ∀ H1, Ex H H1 → Pv 0 σ H1) (ex : ∀ i σ' H', Pv i σ' H' → Ex Hb H')
    (hs : ∀ i d x σ' H' H1, ds[i]? = some d → Pv i σ' H' → Ex H' H1 → Dp K H1 x d → g x σ' H1 fun σ2 H2 => tu { D with nx := Pv (i + 1), ct := Pv (i + 1), bk := tz D } σ2 H2) (hd : ∀ σ' H', Pv ds.length σ' H' → tz D σ' H') : tSeq (tFor wi g tu) tz D σ H :=
  sd_for0 (D := { D with nx := tz D }) eb hi Pv h0 ex hs hd
theorem sq_for (hi : EvI K wi σ H ds) (Pv : Hp → Nat → L2.St → Hp → Prop) (h0 : ∀ H1, Ex H H1 → Pv H1 0 σ H1) (ex : ∀ Hb i σ' H', Pv Hb i σ' H' → Ex Hb H')
    (hs : ∀ Hb i d x σ' H' H1, Ex H Hb → ds[i]? = some d → Pv Hb i σ' H' → Ex H' H1 → Dp K H1 x d → g x σ' H1 fun σ2 H2 => tu { D with nx := Pv Hb (i + 1), ct := Pv Hb (i + 1), bk := tz D } σ2 H2) (hd : ∀ Hb σ' H', Ex H Hb → Pv Hb ds.length σ' H' → tz D σ' H') : tSeq (tFor wi g tu) tz D σ H :=
  sd_for (D := { D with nx := tz D }) hi Pv h0 ex hs hd
theorem sq_tup2 {i1 i2 : Nat} {d1 d2 : PD} (h : EvD K te σ H (.tuple [d1, d2])) (k : ∀ v1 v2 H1, Ex H H1 → Dp K H1 v1 d1 → Dp K H1 v2 d2 → tz D ((σ.set i1 (some v1)).set i2 (some v2)) H1) :
    tSeq (tAsg te (gTup K 2 (gCons (gName i1) (gCons (gName i2) gNil)))) tz D σ H := h H (Ex.refl H) _ fun v H1 e1 hv => by
  cases hv with
  | @tup a xs _ hs ha =>
    cases ha with
    | @cons x1 _ _ _ a1 ha => cases ha with
      | @cons x2 _ _ _ a2 ha => cases ha; exact ⟨a, [x1, x2], rfl, hs, rfl, x1, _, rfl, x2, [], rfl, rfl, k x1 x2 H1 e1 a1 a2⟩
theorem sq_tup4 {i1 i2 i3 i4 : Nat} {d1 d2 d3 d4 : PD} (h : EvD K te σ H (.tuple [d1, d2, d3, d4])) (k : ∀ v1 v2 v3 v4 H1, Ex H H1 → Dp K H1 v1 d1 → Dp K H1 v2 d2 → Dp K H1 v3 d3 → Dp K H1 v4 d4 → tz D ((((σ.set i1 (some v1)).set i2 (some v2)).set i3 (some v3)).set i4 (some v4)) H1) :
    tSeq (tAsg te (gTup K 4 (gCons (gName i1) (gCons (gName i2) (gCons (gName i3) (gCons (gName i4) gNil)))))) tz D σ H := h H (Ex.refl H) _ fun v H1 e1 hv => by
  cases hv with
  | @tup a xs _ hs ha =>
    cases ha with
    | @cons x1 _ _ _ a1 ha => cases ha with
      | @cons x2 _ _ _ a2 ha => cases ha with
        | @cons x3 _ _ _ a3 ha => cases ha with
          | @cons x4 _ _ _ a4 ha => cases ha; exact ⟨a, [x1, x2, x3, x4], rfl, hs, rfl, x1, _, rfl, x2, _, rfl, x3, _, rfl, x4, [], rfl, rfl, k x1 x2 x3 x4 H1 e1 a1 a2 a3 a4⟩
theorem dp_ite {α : Type} {f : α → PD} {b : Bool} {x y : α} (h : Dp K H v (if b = true then f x else f y)) : Dp K H v (f (if b = true then x else y)) := by
  cases b <;> exact h
/-- while -/
theorem sq_while (W : Nat → L2.St → Hp → Prop) (m0 : Nat) (h0 : W m0 σ H)
    (hs : ∀ m σ' H', W m σ' H' → ∃ b, EvT t σ' H' b ∧ (b = true → ∀ H1, Ex H' H1 → ∃ N : L2.St → Hp → Prop, (∀ σ2 H2, N σ2 H2 → ∃ m', m' < m ∧ W m' σ2 H2) ∧ tu { D with nx := N, ct := N, bk := tz D } σ' H1) ∧ (b = false → ∀ H1, Ex H' H1 → tz D σ' H1)) : tSeq (tWhile t tu) tz D σ H :=
  Evl.q_while W m0 h0 hs
end
end Tlg
/-! Lists that grow; fresh answers; nested comprehensions; a few operations more. -/
namespace Tlg
open PySem PySem.Spec PyProof.Rows L2
open Evl (Ex EvT EvO ex_l ex_t)
section
variable {K : PySem.W.Frag} {σ : L2.St} {H H' : Hp} {ta tb te tx : TE} {t u : TT} {x y z v : V} {r : R2} {d e f : PD} {ds es : List PD} {tl : TA} {wi : TI} {D : Ends} {tz tu tw : TS}
/-- a list at p that holds ds -/
def Acc (K : PySem.W.Frag) (p : Addr) (H : Hp) (ds : List PD) : Prop := ∃ acc, H p = some (.lst acc) ∧ DpAll K H acc ds
theorem Acc.mono {p : Addr} (h : Acc K p H ds) (e : Ex H H') : Acc K p H' ds := let ⟨a, h1, h2⟩ := h; ⟨a, e _ _ h1, Dpam h2 e⟩
theorem Acc.dp {p : Addr} (h : Acc K p H ds) : Dp K H (.ref p) (.list ds) := let ⟨_, h1, h2⟩ := h; .lst (.of h1) h2
theorem tupOnlyAll_app {a b : List PD} (ha : tupOnlyAll a = true) (hb : tupOnlyAll b = true) : tupOnlyAll (a ++ b) = true := by
  induction a with
  | nil => exact hb
  | cons x a ih =>
    have z := Bool.and_eq_true_iff.mp ha
    exact Bool.and_eq_true_iff.mpr ⟨z.1, ih z.2⟩
theorem tupOnlyAll_one (h : tupOnly d = true) : tupOnlyAll [d] = true := Bool.and_eq_true_iff.mpr ⟨h, rfl⟩
theorem Acc.push {p : Addr} {acc : List V} (h : H p = some (.lst acc)) (ha : DpAll K H acc ds) (hd : Dp K H v d) (t1 : tupOnlyAll ds = true) (t2 : tupOnly d = true) : Acc K p (upd H p (.lst (acc ++ [v]))) (ds ++ [d]) :=
  ⟨acc ++ [v], upd_same, dpa_b (ExB.upd h) _ _ (tupOnlyAll_app t1 (tupOnlyAll_one t2)) (ha.append (.one hd))⟩
theorem sd_new {i : Nat} (k : ∀ p, H p = none → Acc K p (upd H p (.lst [])) [] → D.nx (σ.set i (some (.ref p))) (upd H p (.lst []))) : tAsg (tLst tNil) (gName i) D σ H :=
  ⟨Evl.sz_of (by simp), fun p hp => k p hp ⟨[], upd_same, .nil⟩⟩
theorem sq_new {i : Nat} (k : ∀ p, H p = none → Acc K p (upd H p (.lst [])) [] → tz D (σ.set i (some (.ref p))) (upd H p (.lst []))) : tSeq (tAsg (tLst tNil) (gName i)) tz D σ H := sd_new (D := { D with nx := tz D }) k
/-- xs.append(e) -/
theorem sd_appA {l : Addr} (ha : EvD K te σ H d) {i : Nat} (hi : σ[i]? = some (some (.ref l))) (hl : Acc K l H ds) (t1 : tupOnlyAll ds = true) (t2 : tupOnly d = true) (hz : ds.length < 100000)
    (k : ∀ H1 H2 o, Ex H H1 → ExB l H1 H2 → H2 = upd H1 l o → Acc K l H2 (ds ++ [d]) → D.nx σ H2) : tDrop (tBM K "list" rAppend (tVar i) (tCons te tNil)) D σ H := by
  obtain ⟨acc, h1, h2⟩ := hl
  have e := h2.length
  exact sd_app ha hi h1 (by omega) fun v H1 e1 hv => k H1 _ _ e1 (ExB.upd (e1 _ _ h1)) rfl (Acc.push (e1 _ _ h1) (Dpam h2 e1) hv t1 t2)
theorem sq_appA {l : Addr} (ha : EvD K te σ H d) {i : Nat} (hi : σ[i]? = some (some (.ref l))) (hl : Acc K l H ds) (t1 : tupOnlyAll ds = true) (t2 : tupOnly d = true) (hz : ds.length < 100000)
    (k : ∀ H1 H2 o, Ex H H1 → ExB l H1 H2 → H2 = upd H1 l o → Acc K l H2 (ds ++ [d]) → tz D σ H2) : tSeq (tDrop (tBM K "list" rAppend (tVar i) (tCons te tNil))) tz D σ H := sd_appA (D := { D with nx := tz D }) ha hi hl t1 t2 hz k
/-! ### operations -/
theorem inV_ints {i : Int} : ∀ {ns : List Int}, inV (.int i) (ns.map V.int) = decide (i ∈ ns)
  | [] => rfl
  | n :: ns => by
    show ((n == i) || inV (.int i) (ns.map V.int)) = _
    rw [inV_ints]
    by_cases h : n = i
    · simp [h]
    · simp [h, Ne.symm h]
theorem flat_ints {ns : List Int} : (ns.map V.int).all flatV = true := by
  rw [List.all_eq_true]
  intro x hx
  obtain ⟨i, _, rfl⟩ := List.mem_map.mp hx
  rfl
theorem rd_inI {i : Int} {ns : List Int} : RD K (rIn K false) (.int i) (.tuple (ns.map PyData.int)) (.bool (decide (i ∈ ns))) := fun H v u hv hu Q q => by
  cases hv
  cases hu with
  | @tup a xs _ hs ha =>
    have e := dpa_ints ha
    subst e
    refine ⟨a, _, rfl, .inr hs, rfl, flat_ints, ?_⟩
    rw [inV_ints]
    exact q _ H (Ex.refl H) (.bl _)
theorem inV_strs {i : Str} : ∀ {ns : List Str}, inV (.str i) (ns.map V.str) = decide (i ∈ ns)
  | [] => rfl
  | n :: ns => by
    show ((n == i) || inV (.str i) (ns.map V.str)) = _
    rw [inV_strs]
    by_cases h : n = i
    · simp [h]
    · simp [h, Ne.symm h]
theorem flat_strs {ns : List Str} : (ns.map V.str).all flatV = true := by
  rw [List.all_eq_true]
  intro x hx
  obtain ⟨i, _, rfl⟩ := List.mem_map.mp hx
  rfl
/-- l.index(x), ints -/
theorem ed_indexI {ns : List Int} {i : Int} {j : Nat} (h1 : EvD K ta σ H (.list (ns.map PyData.int))) (h2 : EvD K tb σ H (.int i)) (hj : ns[j]? = some i) (hno : ∀ m, m < j → ns[m]? ≠ some i) :
    EvD K (tBM K "list" (rIndex K) ta (tCons tb tNil)) σ H (.int (j : Nat)) := fun H1 e1 Q q => h1 H1 e1 _ fun v H2 e2 hv => by
  cases hv with
  | @lst a xs _ hs ha =>
    have e := dpa_ints ha
    subst e
    refine ⟨.inl ⟨rfl, _, hs⟩, h2 H2 (e1.trans e2) _ fun w H3 e3 hw => ?_⟩
    cases hw
    refine ⟨a, _, .int i, j, .int i, rfl, rfl, ex_l e3 hs, rfl, flat_ints, by rw [List.getElem?_map, hj]; rfl, by show (i == i) = true; simp, fun m z' hm hz' => ?_, q _ H3 (e2.trans e3) (.int _)⟩
    rw [List.getElem?_map] at hz'
    cases hn : ns[m]? with
    | none => rw [hn] at hz'; cases hz'
    | some n =>
      rw [hn] at hz'
      cases hz'
      show (n == i) = false
      have : n ≠ i := fun z => hno m hm (by rw [hn, z])
      simpa using this
theorem at_last {l : List PD} {d : PD} (h : l.getLast? = some d) : atI l (-1) = some d := by
  have hne : l ≠ [] := fun z => by rw [z] at h; cases h
  have h0 := List.length_pos_iff.mpr hne
  have e : ixN l.length (-1) = some (l.length - 1) := by
    unfold ixN
    rw [if_neg (by decide), if_pos (by omega)]
    congr 1
    omega
  show (ixN l.length (-1)).bind _ = _
  rw [e, List.getLast?_eq_getElem?] at *
  exact h
theorem at_nat {l : List PD} {d : PD} {j : Nat} (h : l[j]? = some d) : atI l (j : Int) = some d := by
  have hj : j < l.length := (List.getElem?_eq_some_iff.mp h).1
  show (ixN l.length (j : Int)).bind _ = _
  rw [Evl.ixN_nat hj]
  exact h
/-! ### fresh answers -/
/-- evaluates to a new object that holds d -/
def EvF (K : PySem.W.Frag) (te : TE) (σ : L2.St) (H : Hp) (d : PD) : Prop := ∀ H1, Ex H H1 → ∀ Q : VK, (∀ p H2, Ex H1 H2 → H1 p = none → Dp K H2 (.ref p) d → Q (.ref p) H2) → te σ H1 Q
theorem EvF.ed (h : EvF K te σ H d) : EvD K te σ H d := fun H1 e Q q => h H1 e Q fun p H2 e2 _ hd => q _ H2 e2 hd
theorem ex_none {p : Addr} (e : Ex H H') (h : H' p = none) : H p = none := by
  cases hq : H p with
  | none => rfl
  | some o => rw [e _ _ hq] at h; cases h
theorem newLF {H1 : Hp} {vs : List V} {Q : VK} (ha : DpAll K H1 vs ds) (q : ∀ p H2, Ex H1 H2 → H1 p = none → Dp K H2 (.ref p) (.list ds) → Q (.ref p) H2) : ∀ p, H1 p = none → Q (.ref p) (upd H1 p (.lst vs)) :=
  fun p hp => q _ _ (Ex.new hp) hp (.lst (.of upd_same) (Dpam ha (Ex.new hp)))
theorem ef_lst (h : EvS K tl σ H ds) (hl : ds.length ≤ 100000) : EvF K (tLst tl) σ H (.list ds) := fun H1 a Q q =>
  h H1 a _ fun vs H2 e2 hs => ⟨Evl.sz_of (by rw [hs.length]; exact hl), newLF hs fun z H3 e3 hn => q z H3 (e2.trans e3) (ex_none e2 hn)⟩
theorem ef_catS (h1 : EvD K ta σ H (.list ds)) (h2 : EvD K tb σ H (.list es)) (hl : ds.length + es.length ≤ 100000) : EvF K (tOp (rCatS K) ta tb) σ H (.list (ds ++ es)) := fun H1 a Q q =>
  h1 H1 a _ fun v H2 e2 hv => h2 H2 (a.trans e2) _ fun u H3 e3 hu => by
    cases hv with
    | @lst p xs _ hs ha =>
      cases hu with
      | @lst p2 ys _ hs2 ha2 =>
        have l1 := ha.length
        have l2 := ha2.length
        exact ⟨p, p2, xs, ys, rfl, rfl, ex_l e3 hs, hs2, Evl.sz_of (by omega), newLF ((Dpam ha e3).append ha2) fun z H4 e4 hn => q z H4 ((e2.trans e3).trans e4) (ex_none (e2.trans e3) hn)⟩
theorem ef_listRg {te : L2.St → Hp → (Int → Int → Hp → Prop) → Prop} {i j : Int} (h : ∀ H1, Ex H H1 → ∀ Q : Int → Int → Hp → Prop, (∀ H2, Ex H1 H2 → Q i j H2) → te σ H1 Q) (hi : 0 ≤ i ∧ i ≤ 100000 ∧ 0 ≤ j ∧ j ≤ 100000) :
    EvF K (tLstRg te) σ H (.list ((List.range (j - i).toNat).map fun k => PyData.int (i + (k : Nat)))) := fun H1 e Q q =>
  h H1 e _ fun H2 e2 => ⟨⟨by omega, by omega, by omega, by omega, by omega⟩, fun p hp => newLF (ds := (List.range (j - i).toNat).map fun k => PyData.int (i + (k : Nat))) (vs := rgV i j) (by
    have h := dpa_of_ints (K := K) (H := H2) (ns := (List.range (j - i).toNat).map fun k => i + ((k : Nat) : Int))
    rw [List.map_map, List.map_map] at h
    exact h) (fun z H3 e3 hn => q z H3 (e2.trans e3) (ex_none e2 hn)) p hp⟩
/-- a promise of a fresh answer -/
def PFF (K : PySem.W.Frag) (R : List PD → PD → Prop) : Sp := fun vs H Q _ => ∃ ds d, DpAll K H vs ds ∧ R ds d ∧ ∀ p H', Ex H H' → H p = none → Dp K H' (.ref p) d → Q (.ref p) H'
theorem ef_call {R : List PD → PD → Prop} {E : XK} (h : EvS K tl σ H ds) (hR : R ds f) : EvF K (tCall (PFF K R) [] E tl) σ H f := fun H1 e Q q =>
  h H1 e _ fun vs H2 e2 hs => by
    show PFF K R (vs ++ []) H2 Q E
    rw [List.append_nil]
    exact ⟨ds, f, hs, hR, fun v H3 e3 hn hv => q v H3 (e2.trans e3) (ex_none e2 hn) hv⟩
theorem PFF.len {R : List PD → PD → Prop} {n : Nat} (hn : ∀ ds d, R ds d → ds.length = n) : ∀ (vs : List V) (H : Hp) (Q : VK) (E : XK), PFF K R vs H Q E → vs.length = n := fun _ _ _ _ ⟨ds, d, h, hR, _⟩ => h.length.trans (hn ds d hR)
theorem sd_retF (h : EvF K te σ H d) (k : ∀ p H1, Ex H H1 → H p = none → Dp K H1 (.ref p) d → D.rt (.ref p) H1) : tRet te D σ H := h H (Ex.refl H) _ k
theorem yes_if {A B : Hp → Prop} (h : A H) : tYes σ H (fun b H3 => if b = true then A H3 else B H3) := by
  show (if true = true then A H else B H)
  rw [if_pos rfl]
  exact h
/-! ### [w for a in l for b in m(a)] -/
theorem ExB.l {a b : Addr} {xs : List V} (e : ExB a H H') (hb : b ≠ a) (h : SqL K H b xs) : SqL K H' b xs := by
  rcases h with h | h
  · rcases h with h | ⟨o, h⟩
    · exact .inl (.inl (e.keep b _ hb h))
    · exact .inl (.inr ⟨o, e.keep b _ hb h⟩)
  · exact .inr h
theorem ed_lcN {j1 j2 : Nat} {vs vs1 : List Nat} {tl2 : TE} (m : PD → List PD) (w : PD → PD → PD) (hi : EvI K wi σ H ds) (hn : (ds.flatMap fun d => (m d).map (w d)).length ≤ 100000)
    (hw : ∀ x, wipe ((wipe σ vs).set j1 (some x)) vs = wipe σ vs) (hw1 : ∀ x y, wipe ((wipe ((wipe σ vs).set j1 (some x)) vs1).set j2 (some y)) vs1 = wipe ((wipe σ vs).set j1 (some x)) vs1)
    (hm : ∀ d ∈ ds, tupOnly d = true ∧ tupOnlyAll (m d) = true ∧ ∀ e ∈ m d, tupOnly (w d e) = true)
    (h1 : ∀ d ∈ ds, ∀ x H1, Ex H H1 → Dp K H1 x d → EvF K tl2 ((wipe σ vs).set j1 (some x)) H1 (.list (m d)))
    (h2 : ∀ d ∈ ds, ∀ e ∈ m d, ∀ x y H1, Ex H H1 → Dp K H1 x d → Dp K H1 y e → EvD K te ((wipe ((wipe σ vs).set j1 (some x)) vs1).set j2 (some y)) H1 (w d e)) :
    EvD K (tLc2 wi (gName j1) tYes (iList K tl2) (gName j2) tYes te vs vs1) σ H (.list (ds.flatMap fun d => (m d).map (w d))) := fun H1 e1 Q q =>
  hi H1 e1 _ fun J H2 At e2 Dj a2 => fun Dl hD => by
    have allT : ∀ l : List PD, (∀ d ∈ l, d ∈ ds) → tupOnlyAll (l.flatMap fun d => (m d).map (w d)) = true := fun l hl => by
      induction l with
      | nil => rfl
      | cons a l ih =>
        rw [List.flatMap_cons]
        exact tupOnlyAll_app (tupOnlyAll_map fun e he => (hm a (hl a List.mem_cons_self)).2.2 e he) (ih fun d hd => hl d (List.mem_cons_of_mem _ hd))
    have subLen : ∀ i, ((ds.take i).flatMap fun d => (m d).map (w d)).length ≤ (ds.flatMap fun d => (m d).map (w d)).length := fun i => by
      have h : (ds.flatMap fun d => (m d).map (w d)) = ((ds.take i).flatMap fun d => (m d).map (w d)) ++ ((ds.drop i).flatMap fun d => (m d).map (w d)) := by rw [← List.flatMap_append, List.take_append_drop]
      rw [h, List.length_append]
      omega
    have tk : ∀ i d, ds[i]? = some d → ((ds.take (i + 1)).flatMap fun d => (m d).map (w d)) = ((ds.take i).flatMap fun d => (m d).map (w d)) ++ (m d).map (w d) := fun i d h => by
      rw [List.take_add_one, h, List.flatMap_append]
      simp
    refine ⟨fun i mm H' => mm = ds.length - i ∧ i ≤ ds.length ∧ Ex H2 H' ∧ Acc K Dl H' ((ds.take i).flatMap fun d => (m d).map (w d)), ⟨_, rfl, Nat.zero_le _, Ex.new hD, [], upd_same, by rw [List.take_zero]; exact .nil⟩, ?_⟩
    rintro i mm H' ⟨rfl, hle, e3, hA⟩
    by_cases hlt : i < ds.length
    · refine .inr ⟨Dj.go i H' (Dj.mono _ _ e3 a2) hlt, fun H' => i + 1 ≤ ds.length ∧ Ex H2 H' ∧ Acc K Dl H' ((ds.take (i + 1)).flatMap fun d => (m d).map (w d)), fun H' ⟨p1, p2, p3⟩ => ⟨ds.length - (i + 1), by omega, rfl, p1, p2, p3⟩, fun x H4 y => ?_⟩
      obtain ⟨d, hd, e4, dx⟩ := Dj.yld i H' x H4 (Dj.mono _ _ e3 a2) hlt y
      have hdm : d ∈ ds := List.mem_of_getElem? hd
      obtain ⟨td, tm, tw⟩ := hm d hdm
      refine ⟨hw x, yes_if ?_⟩
      refine h1 d hdm x H4 (((e1.trans e2).trans e3).trans e4) dx H4 (Ex.refl H4) _ fun p H5 e5 hp hv => ?_
      have hA4 := hA.mono e4
      have hpD : p ≠ Dl := fun z => by
        obtain ⟨acc, h, _⟩ := hA4
        rw [← z, hp] at h
        cases h
      cases hv with
      | @lst _ xs _ hs ha =>
        have len := ha.length
        refine ⟨p, rfl, ⟨xs, hs⟩, fun j k H' => k = (m d).length - j ∧ j ≤ (m d).length ∧ Ex H2 H' ∧ (Ex H5 H' ∨ ExB Dl H5 H') ∧ Acc K Dl H' (((ds.take i).flatMap fun d => (m d).map (w d)) ++ ((m d).take j).map (w d)), ⟨_, rfl, Nat.zero_le _, (e3.trans e4).trans e5, .inl (Ex.refl H5), by rw [List.take_zero, List.map_nil, List.append_nil]; exact hA4.mono e5⟩, ?_⟩
        rintro j k H6 ⟨rfl, hjl, e6, e56, hA6⟩
        have hs6 : SqL K H6 p xs := by
          rcases e56 with e | e
          · exact ex_l e hs
          · exact e.l hpD hs
        have ha6 : DpAll K H6 xs (m d) := by
          rcases e56 with e | e
          · exact Dpam ha e
          · exact dpa_b e _ _ tm ha
        have dx6 : Dp K H6 x d := by
          have dx5 := Dpm dx e5
          rcases e56 with e | e
          · exact Dpm dx5 e
          · exact dp_b e _ _ td dx5
        by_cases hj : j < (m d).length
        · refine .inr ⟨by obtain ⟨v, hv, _⟩ := ha6.get (List.getElem?_eq_getElem hj); exact ⟨xs, v, hs6, hv⟩, fun H' => j + 1 ≤ (m d).length ∧ Ex H2 H' ∧ (Ex H5 H' ∨ ExB Dl H5 H') ∧ Acc K Dl H' (((ds.take i).flatMap fun d => (m d).map (w d)) ++ ((m d).take (j + 1)).map (w d)), fun H' ⟨p1, p2, p3, p4⟩ => ⟨(m d).length - (j + 1), by omega, rfl, p1, p2, p3, p4⟩, ?_⟩
          rintro y H7 ⟨rfl, hy⟩
          replace hy := hy xs hs6
          obtain ⟨e, he, dy⟩ := ha6.getV hy
          have hem : e ∈ m d := List.mem_of_getElem? he
          refine ⟨hw1 x y, yes_if ?_⟩
          refine h2 d hdm e hem x y H7 ((e1.trans e2).trans e6) dx6 dy H7 (Ex.refl H7) _ fun z H8 e8 hz => ?_
          obtain ⟨acc, hacc, hda⟩ := hA6
          have l1 := hda.length
          have l2 := subLen (i + 1)
          rw [tk i d hd, List.length_append, List.length_map] at l2
          rw [List.length_append, List.length_map, List.length_take] at l1
          have tAll : tupOnlyAll (((ds.take i).flatMap fun d => (m d).map (w d)) ++ ((m d).take j).map (w d)) = true :=
            tupOnlyAll_app (allT _ fun d hd => List.mem_of_mem_take hd) (tupOnlyAll_map fun e he => tw e (List.mem_of_mem_take he))
          refine ⟨acc, e8 _ _ hacc, Evl.sz_lt (by omega), by omega, Evl.Ex.mut (e6.trans e8) hD, .inr ?_, ?_⟩
          · rcases e56 with e' | e'
            · have xb := ExB.upd (o := .lst (acc ++ [z])) (e8 _ _ hacc)
              exact ⟨fun b o hb hh => xb.keep b o hb (e8 _ _ (e' _ _ hh)), fun ys hh => xb.nt ys (Evl.ex_rd (e'.trans e8) hh)⟩
            · have xb := ExB.upd (o := .lst (acc ++ [z])) (e8 _ _ hacc)
              exact ⟨fun b o hb hh => xb.keep b o hb (e8 _ _ (e'.keep b o hb hh)), e'.nt⟩
          · rw [List.take_add_one, he]
            simp only [Option.toList_some, List.map_append, List.map_cons, List.map_nil]
            rw [← List.append_assoc]
            exact Acc.push (e8 _ _ hacc) (Dpam hda e8) hz tAll (tw e hem)
        · obtain rfl : j = (m d).length := by omega
          refine .inl ⟨⟨xs, hs6, by omega⟩, by omega, e6, ?_⟩
          rw [tk i d hd]
          rw [List.take_length] at hA6
          exact hA6
    · obtain rfl : i = ds.length := by omega
      refine .inl ⟨Dj.stop H' (Dj.mono _ _ e3 a2), q _ H' (e2.trans e3) ?_⟩
      rw [List.take_length] at hA
      exact hA.dp
/-! ### shapes -/
def Shp (n : Nat) (d : PD) : Prop := PyData.canLay0 d = true ∧ PyData.depth d ≤ n
theorem Shp.ok {n : Nat} (h : Shp n d) (hn : n ≤ 64) : SeqAt.shaped d = true := Bool.and_eq_true_iff.mpr ⟨h.1, decide_eq_true (Nat.le_trans h.2 hn)⟩
theorem Shp.mono {n m : Nat} (h : Shp n d) (hn : n ≤ m) : Shp m d := ⟨h.1, Nat.le_trans h.2 hn⟩
theorem shp_int {n : Nat} {i : Int} : Shp n (.int i) := ⟨rfl, Nat.zero_le _⟩
theorem shp_bool {n : Nat} {i : Bool} : Shp n (.bool i) := ⟨rfl, Nat.zero_le _⟩
theorem shp_none {n : Nat} : Shp n .none := ⟨rfl, Nat.zero_le _⟩
theorem shp_all {n : Nat} : ∀ {ds : List PD}, (∀ d ∈ ds, Shp n d) → PyData.canLayAll0 ds = true ∧ PyData.depthAll ds ≤ n
  | [], _ => ⟨rfl, Nat.zero_le _⟩
  | d :: ds, h => by
    obtain ⟨a, b⟩ := shp_all (ds := ds) fun d hd => h d (List.mem_cons_of_mem _ hd)
    obtain ⟨c, e⟩ := h d List.mem_cons_self
    exact ⟨Bool.and_eq_true_iff.mpr ⟨c, a⟩, Nat.max_le.mpr ⟨e, b⟩⟩
theorem shp_tup {n : Nat} {ds : List PD} (h : ∀ d ∈ ds, Shp n d) : Shp (n + 1) (.tuple ds) := by
  obtain ⟨a, b⟩ := shp_all h
  exact ⟨a, by show PyData.depthAll ds + 1 ≤ n + 1; omega⟩
theorem shp_lst {n : Nat} {ds : List PD} (h : ∀ d ∈ ds, Shp n d) : Shp (n + 1) (.list ds) := by
  obtain ⟨a, b⟩ := shp_all h
  exact ⟨a, by show PyData.depthAll ds + 1 ≤ n + 1; omega⟩
theorem eqv_ints : ∀ {a b : List Int}, PyData.eqvAll (a.map PyData.int) (b.map PyData.int) = decide (a = b)
  | [], [] => rfl
  | [], _ :: _ => rfl
  | _ :: _, [] => rfl
  | x :: a, y :: b => by
    show ((x == y) && PyData.eqvAll (a.map PyData.int) (b.map PyData.int)) = _
    rw [eqv_ints]
    by_cases h : x = y <;> by_cases h2 : a = b <;> simp [h, h2]
/-! ### defs that may raise -/
theorem passN {X : Cx} : Passes (L2N.CX X.prog X.w) X E0 := fun _ _ _ _ _ _ _ h => by
  obtain ⟨_, _, _, _, _, _, _, _, _, _, _, _, z⟩ := h
  exact z.elim
structure CalX (P : Program) (w : World) (K : PySem.W.Frag) (mg : Str → Option Value) (base : Heap) (k : Nat) (x : Str) (sp : Sp) : Prop where
  ex : ∃ (f : Addr) (fd : FuncData) (ps : List Str), FnOk P w K mg base (L2N.CX P w) k f fd ps sp ∧ mg x = some (.ref f) ∧ PySem.W.keepIn K (.ref f) = true ∧ Binds K fd ps []
/-- .. called where nothing that is raised is let out -/
theorem pe_cX {X : Cx} {k j : Nat} {x : Str} {sp : Sp} {p pos : Pos} {e1 : Expr} {es1 : List Expr} {t : TA} (c : CalX X.prog X.w X.K X.mg X.base k x sp) (hr : Room j X.A) (hk : k ≤ j) (hg : Gl X x) (ha : PA X (e1 :: es1) t) (hdb : (x == ("__debug__" : Str)) = false := by decide)
    (he : starEach (e1 :: es1) X.env = (false, eval e1 X.env) :: starEach es1 X.env := by rfl) (hpl : (backTo pos (starEach es1 X.env)).any (·.1) = false := by rfl) : PE X (.Call (.Name x p) (e1 :: es1) [] pos) (tCall sp [] E0 t) := by
  obtain ⟨f, fd, ps, F, hm, kp, b⟩ := c.ex
  exact pe_call F (hr.mono hk) hg hm kp b .nil passN ha hdb he hpl
end
end Tlg
/-! A deck: one list of three numbers that is changed by each draw; all else stands. -/
namespace Tlg
open PySem PySem.Spec PyProof.Rows L2
open Evl (Ex EvT EvO ex_l ex_t)
section
variable {K : PySem.W.Frag} {σ : L2.St} {H H' H1 H2 H3 : Hp} {ta tb te tx : TE} {t u : TT} {x y z v : V} {r : R2} {d e f : PD} {ds es : List PD} {tl : TA} {wi : TI} {D : Ends} {tz tu tw : TS} {p : Addr} {Z m n : Int}
/-- all but the object at p stands -/
def Xb (p : Addr) (H H' : Hp) : Prop := ∀ b o, b ≠ p → H b = some o → H' b = some o
theorem Xb.refl : Xb p H H := fun _ _ _ h => h
theorem Xb.trans (a : Xb p H H1) (b : Xb p H1 H2) : Xb p H H2 := fun c o hc h => b c o hc (a c o hc h)
theorem Xb.of (e : Ex H H1) : Xb p H H1 := fun c o _ h => e c o h
/-- where p was not there, all stands -/
theorem Xb.ex (a : Xb p H H1) (hp : H p = none) : Ex H H1 := fun c o h => a c o (fun e => by rw [e, hp] at h; cases h) h
structure Deck (H : Hp) (p : Addr) (Z : Int) : Prop where
  has : ∃ x y z : Int, H p = some (.lst [.int x, .int y, .int z]) ∧ 0 ≤ y ∧ y < 2147483648 ∧ 0 ≤ z ∧ z ≤ Z
theorem Deck.le (h : Deck H p Z) (hz : Z ≤ m) : Deck H p m := let ⟨x, y, z, a, b, c, d, e⟩ := h.has; ⟨x, y, z, a, b, c, d, Int.le_trans e hz⟩
theorem Deck.ex (h : Deck H p Z) (e : Ex H H1) : Deck H1 p Z := let ⟨x, y, z, a, b⟩ := h.has; ⟨x, y, z, e _ _ a, b⟩
theorem Deck.nt (h : Deck H p Z) : ∀ xs, ¬ Rd H p (.tup xs) := fun ys q => by
  obtain ⟨x, y, z, a, _⟩ := h.has
  rcases q with q | ⟨_, q⟩ <;> (rw [a] at q; cases q)
theorem Xb.b (a : Xb p H H1) (h : Deck H p Z) : ExB p H H1 := ⟨a, h.nt⟩
theorem Deck.ne (h : Deck H p Z) {q : Addr} (hq : H q = none) : q ≠ p := fun e => by
  obtain ⟨x, y, z, a, _⟩ := h.has
  rw [e, a] at hq
  cases hq
theorem Deck.upd (h : Deck H p Z) {q : Addr} {o : HO} (hq : q ≠ p) : Deck (upd H q o) p Z := let ⟨x, y, z, a, b⟩ := h.has; ⟨x, y, z, by rw [upd_ne (Ne.symm hq)]; exact a, b⟩
theorem Deck.lift (h : Deck H p Z) (a : Xb p H H1) : Deck H p Z := h
/-- evaluates, with n draws at most, to something of P -/
def EvM (K : PySem.W.Frag) (p : Addr) (te : TE) (σ : L2.St) (H : Hp) (Z n : Int) (P : PD → Prop) : Prop := ∀ H1, Xb p H H1 → Deck H1 p Z → ∀ Q : VK, (∀ v d H2, Xb p H1 H2 → Deck H2 p (Z + n) → Dp K H2 v d → P d → Q v H2) → te σ H1 Q
theorem EvM.mono {P : PD → Prop} (h : EvM K p te σ H Z n P) (a : Xb p H H1) : EvM K p te σ H1 Z n P := fun H2 b => h H2 (a.trans b)
theorem em_pure {P : PD → Prop} (h : ∀ H1, Xb p H H1 → EvD K te σ H1 d) (hP : P d) : EvM K p te σ H Z 0 P := fun H1 a dk Q q => h H1 a H1 (Ex.refl H1) Q fun v H2 e hv => q v d H2 (.of e) (by rw [Int.add_zero]; exact dk.ex e) hv hP
/-- a variable that holds no list -/
theorem em_var {i : Nat} {P : PD → Prop} (hk : ∃ Z0, Deck H p Z0) (h : σ[i]? = some (some v)) (hd : Dp K H v d) (ht : tupOnly d = true) (hP : P d) : EvM K p (tVar i) σ H Z 0 P := let ⟨_, dk⟩ := hk; em_pure (fun H1 a => ed_var h (dp_b (a.b dk) _ _ ht hd)) hP
theorem em_op {n1 n2 : Int} {P1 P2 P3 : PD → Prop} (h1 : EvM K p ta σ H Z n1 P1) (h2 : EvM K p tb σ H (Z + n1) n2 P2) (ht : ∀ d, P1 d → tupOnly d = true) (hr : ∀ d e, P1 d → P2 e → ∃ f, RD K r d e f ∧ P3 f) : EvM K p (tOp r ta tb) σ H Z (n1 + n2) P3 := fun H1 a dk Q q =>
  h1 H1 a dk _ fun v d H2 a2 dk2 hv pd => h2 H2 (a.trans a2) dk2 _ fun u e H3 a3 dk3 hu pe => by
    obtain ⟨f, rd, pf⟩ := hr d e pd pe
    refine rd H3 v u (dp_b (a3.b dk2) _ _ (ht d pd) hv) hu Q fun z H4 e4 hz => q z f H4 ((a2.trans a3).trans (.of e4)) ?_ hz pf
    rw [← Int.add_assoc]
    exact dk3.ex e4
/-- the promise of the draw -/
def spPick : Sp := fun vs H Q _ => ∃ (p : Addr) (lim Z : Int), vs = [.ref p, .int lim] ∧ 1 ≤ lim ∧ lim < 1000000 ∧ Deck H p Z ∧ Z ≤ 1000000000 ∧ ∀ r H', 0 ≤ r → r < lim → Xb p H H' → Deck H' p (Z + 1) → Q (.int r) H'
def below (lim : Int) (d : PD) : Prop := ∃ r : Int, d = .int r ∧ 0 ≤ r ∧ r < lim
theorem em_pick {i : Nat} {lim : Int} {E : XK} (h : σ[i]? = some (some (.ref p))) (hl : ∀ H1, EvD K te σ H1 (.int lim)) (h1 : 1 ≤ lim) (h2 : lim < 1000000) (hz : Z ≤ 1000000000) : EvM K p (tCall spPick [] E (tCons (tVar i) (tCons te tNil))) σ H Z 1 (below lim) := fun H1 a dk Q q =>
  ⟨_, h, hl H1 H1 (Ex.refl H1) _ fun v H2 e2 hv => by
    cases hv
    exact ⟨p, lim, Z, rfl, h1, h2, dk.ex e2, hz, fun r H' a1 a2 b dk' => q _ _ H' ((Xb.of e2).trans b) dk' (.int r) ⟨r, rfl, a1, a2⟩⟩⟩
/-- c + draw -/
theorem em_plus {c lim : Int} (h : EvM K p te σ H Z 1 (below lim)) : EvM K p (tOp (rI0 fun i j => .int (i + j)) (tC (.int c)) te) σ H Z 1 (fun d => ∃ r : Int, d = .int (c + r) ∧ 0 ≤ r ∧ r < lim) := by
  have := em_op (n1 := 0) (n2 := 1) (P1 := fun d => d = .int c) (P3 := fun d => ∃ r : Int, d = .int (c + r) ∧ 0 ≤ r ∧ r < lim) (r := rI0 fun i j => .int (i + j)) (em_pure (Z := Z) (p := p) (H := H) (σ := σ) (K := K) (fun H1 _ => ed_int (i := c)) rfl) (by rw [Int.add_zero]; exact h) (fun d e => by rw [e]; rfl)
    fun d e hd he => by
      obtain ⟨r, rfl, a, b⟩ := he
      subst hd
      exact ⟨.int (c + r), rd_I0, r, rfl, a, b⟩
  rw [Int.zero_add] at this
  exact this
/-- draw == c -/
theorem em_is {c lim : Int} (h : EvM K p te σ H Z 1 (below lim)) : EvM K p (tOp rEq te (tC (.int c))) σ H Z 1 (fun d => ∃ b : Bool, d = .bool b) := by
  have := em_op (n1 := 1) (n2 := 0) (P2 := fun d => d = .int c) (P3 := fun d => ∃ b : Bool, d = .bool b) (r := rEq) h (em_pure (fun H1 _ => ed_int (i := c)) rfl) (fun d e => by obtain ⟨r, rfl, _⟩ := e; rfl)
    fun d e hd he => by
      obtain ⟨r, rfl, a, b⟩ := hd
      subst he
      exact ⟨_, rd_eqI, _, rfl⟩
  rw [Int.add_zero] at this
  exact this
/-- a list is made by draws -/
theorem lc_m {j : Nat} {vs : List Nat} {N : Nat} {P : PD → Prop} {Pn : Nat → Prop} (hwi : ∀ H1, Xb p H H1 → Deck H1 p Z → ∀ R : It → Hp → Prop, (∀ n H2, Pn n → Xb p H1 H2 → Deck H2 p (Z + m) → R (Itr 0 n) H2) → wi σ H1 R) (hPn : ∀ n, Pn n → n ≤ N) (hN : N ≤ 1000)
    (hw : ∀ x, wipe ((wipe σ vs).set j (some x)) vs = wipe σ vs) (ht : ∀ d, P d → tupOnly d = true)
    (hb : ∀ (k : Nat) x H1, Xb p H H1 → k < N → EvM K p te ((wipe σ vs).set j (some x)) H1 (Z + m + k) 1 P) (a : Xb p H H1) (dk : Deck H1 p Z) {Q : VK}
    (q : ∀ q ds H2, Pn ds.length → (∀ d ∈ ds, P d) → Xb p H1 H2 → Deck H2 p (Z + m + N) → Acc K q H2 ds → q ≠ p → Q (.ref q) H2) : tLc wi (gName j) tYes te vs σ H1 Q :=
  hwi H1 a dk _ fun n H2 hn a2 dk2 => fun Dl hD => by
    have hDp := dk2.ne hD
    have hnN := hPn n hn
    have tA : ∀ ds : List PD, (∀ d ∈ ds, P d) → tupOnlyAll ds = true := fun ds h => by
      have := tupOnlyAll_map (f := fun d => d) (l := ds) fun d hd => ht d (h d hd)
      rwa [List.map_id'] at this
    refine ⟨fun i mm H' => mm = n - i ∧ i ≤ n ∧ Xb p H2 H' ∧ Deck H' p (Z + m + i) ∧ ∃ ds, ds.length = i ∧ (∀ d ∈ ds, P d) ∧ Acc K Dl H' ds, ⟨_, rfl, Nat.zero_le _, .of (Ex.new hD), by have := dk2.upd (o := .lst []) hDp; simpa using this, [], rfl, fun _ h => (by cases h), [], upd_same, .nil⟩, ?_⟩
    rintro i mm H' ⟨rfl, hle, a3, dk3, ds, hl, hP, hA⟩
    by_cases hlt : i < n
    · refine .inr ⟨hlt, fun H' => i + 1 ≤ n ∧ Xb p H2 H' ∧ Deck H' p (Z + m + (i + 1 : Nat)) ∧ ∃ ds, ds.length = i + 1 ∧ (∀ d ∈ ds, P d) ∧ Acc K Dl H' ds, fun H' ⟨p1, p2, p3, p4⟩ => ⟨n - (i + 1), by omega, rfl, p1, p2, p3, p4⟩, ?_⟩
      rintro x H4 ⟨rfl, rfl⟩
      refine ⟨hw _, yes_if ?_⟩
      refine hb i _ H4 ((a.trans a2).trans a3) (by omega) H4 .refl dk3 _ fun z d H5 a5 dk5 hz pd => ?_
      obtain ⟨acc, h1, h2⟩ := hA
      have h5 := a5 _ _ hDp h1
      have len := h2.length
      have ha5 : DpAll K H5 acc ds := dpa_b (a5.b dk3) _ _ (tA ds hP) h2
      refine ⟨acc, h5, Evl.sz_lt (by omega), by omega, fun b o hb hh => ?_, ?_, ds ++ [d], by rw [List.length_append, hl]; rfl, ?_, Acc.push h5 ha5 hz (tA ds hP) (ht d pd)⟩
      · have hbD : b ≠ Dl := ne_of_none hh hD
        rw [upd_ne hbD]
        exact (a3.trans a5) b o hb hh
      · have := dk5.upd (o := .lst (acc ++ [z])) hDp
        exact this.le (by omega)
      · intro d' hd'
        rcases List.mem_append.mp hd' with h | h
        · exact hP d' h
        · rw [List.mem_singleton.mp h]
          exact pd
    · obtain rfl : i = n := by omega
      exact .inl ⟨Nat.le_refl _, q Dl ds H' (by rw [hl]; exact hn) hP (a2.trans a3) (dk3.le (by omega)) hA hDp⟩
end
end Tlg
/-! While an exception is handled: a pair's store, a comprehension. The proofs are those of the calm forms, turned. -/
namespace Tlg
open PySem PySem.Spec PyProof.Rows L2
section
variable {prog : Program} {w : World} {A : Around} {E : Value → Shared → Prop} {s : Shared}
theorem next_tuple_end_hot {it t x1 : Addr} {i : Nat} {items : Array Value} {Q : Option Value → Shared → Prop} (hot : HotX.HotAt A x1 s.heap) (hne : x1 ≠ it) (hit : IsTupIter s.heap it t i) (ht : IsTup s.heap t items) (hx : items[i]? = none)
    (hQ : ∀ h', Heap.ExtBut it s.heap h' → Q none { s with heap := h' }) : wpAny (model prog w) A (pyNext (.ref it)) Q E s := by
  obtain ⟨hh, o1, vs1, h1, d1, c1⟩ := hot
  obtain ⟨o, ho, hc, hd⟩ := id hit
  obtain ⟨ol, hol, _, nl, hdl⟩ := ht
  unfold pyNext
  refine wpAny_bind (wpAny_attempt (wpAny_callSpecial?_slot (name := Str.ofString "__next__") hit.typeIs slot_tupleiter_next
    (wpAny_call_entry slot_tupleiter_next hit.typeIs entry_tupleiter_next ?_ (args_tupleiter_next _))))
  show wpAny _ _ (field (.ref it) 0 >>= _) _ _ s
  refine wpAny_bind (wpAny_field ho hd (x := .ref t) rfl ?_)
  show wpAny _ _ (if (Value.ref t == Value.none) = true then _ else _) _ _ s
  rw [if_neg (show ¬ ((Value.ref t == Value.none) = true) from Bool.false_ne_true)]
  show wpAny _ _ (field (.ref it) 1 >>= _) _ _ s
  refine wpAny_bind (wpAny_field ho hd (x := .int i 0) rfl ?_)
  show wpAny _ _ (seqItems? (.ref t) >>= _) _ _ s
  refine wpAny_bind (wpAny_seqItems hol hdl ?_)
  simp only [Int.toNat_natCast, hx]
  refine wpAny_bind (wpAny_rule (wpAny_bind (wpAny_setField ho hd (by simp) ?_)))
  show wpAny _ _ (newExc (.type "StopIteration") [] >>= _) _ _ _
  refine wpAny_bind ?_
  simp only [newExc, newTuple]
  refine wpAny_bind (wpAny_newObj_type ?_ (by size_fits))
  refine wpAny_bind (m := firstArgMember _ _) (wpAny_of_eq (a := Value.none) (by first | rfl | (simp only [firstArgMember]; rfl)) ?_)
  refine wpAny_newObj_type ?_ (by size_fits)
  have g1 : ∀ {g : Heap}, Heap.ExtBut it s.heap g → g.get? x1 = some o1 := fun q => q _ _ hne h1
  refine HotX.raiseNew_hot ⟨hh, o1, vs1, g1 (((Heap.SameBut.update ..).extBut.push _).push _), d1, c1⟩ (Nat.ne_of_lt (Heap.lt_size (g1 ((Heap.SameBut.update ..).extBut.push _)))) (Heap.get?_push_size _ rfl) rfl (by first | (simp; done) | (simp; omega) | (simp only [Array.size_append]; simp; omega)) ?_
  refine wpAny_bind (wpAny_isInstance (T := "StopIteration") (b := true) ⟨_, Heap.get?_update_self _ (Heap.get?_push_size _ rfl) rfl, rfl⟩ isSubtype_stop ?_)
  refine wpAny_pure (hQ _ fun b o hb e => ?_)
  refine (Heap.get?_update_other _ _ (Nat.ne_of_gt (Heap.lt_size ?z))).trans (Heap.get?_push_of_some _ ?z)
  exact ((Heap.SameBut.update ..).extBut.push _) _ _ hb e
theorem assign_pair_hot {env : Env} {elts : List Expr} {x2 : Nat} {pos : Pos} {t x1 : Addr} {items : Array Value} {Q : Unit → Shared → Prop} (hot : HotX.HotAt A x1 s.heap) (ht : IsTup s.heap t items)
    (hn : (assignEach elts env).length = items.size) (hstar : (assignEach elts env).findIdx? (·.1) = none)
    (h : ∀ h', Heap.ExtBut s.heap.objs.size s.heap h' → wpAny (model prog w) A (assignInOrder ((assignEach elts env).map (·.2)) items.toList) Q E { s with heap := h' }) :
    wpAny (model prog w) A (assign (.Tuple elts x2 pos) env (.ref t)) Q E s := by
  rw [assign_Tuple]
  refine wpAny_bind (wpAny_standAt ?_)
  unfold unpack
  rw [hn, hstar]
  refine wpAny_bind (wpAny_holding ?_)
  have hlt : t ≠ s.heap.objs.size := by obtain ⟨o, ho, _⟩ := ht; exact Nat.ne_of_lt (Heap.lt_size ho)
  obtain ⟨hh, o1, vs1, h1, d1, c1⟩ := hot
  have hlt1 : x1 ≠ s.heap.objs.size := Nat.ne_of_lt (Heap.lt_size h1)
  unfold unpackItems
  refine wpAny_bind ?_
  unfold notIterableAtAll
  refine wpAny_bind (wpAny_specialOf ht.typeIs slot_tuple_iter.lookup ?_)
  refine wpAny_pure ?_
  simp only [Bool.false_eq_true, if_false]
  refine wpAny_bind (wpAny_holding (iter_tuple ht ?_))
  refine wpAny_bind (wpAny_holding (draw_tuple hlt items.size 0 _ _ ⟨_, Heap.get?_push_size _ rfl, rfl, rfl⟩ (ht.push _) (by omega) fun h₁ hit₁ hs₁ => ?_))
  have hall : List.take items.size (List.drop 0 items.toList) = items.toList := by
    rw [List.drop_zero]; exact List.take_of_length_le (by simp)
  rw [hall]
  rw [if_neg (by simp)]
  have ht₁ : IsTup h₁ t items := (ht.push _).extBut hs₁.extBut hlt
  refine wpAny_bind (wpAny_holding (next_tuple_end_hot ⟨hh, o1, vs1, hs₁.extBut _ _ hlt1 (Heap.get?_push_of_some _ h1), d1, c1⟩ hlt1 hit₁ ht₁ (by simp) fun h₂ he₂ => ?_))
  simp only [Option.isSome_none, Bool.false_eq_true, if_false]
  exact wpAny_pure (h h₂ fun b o hb e => he₂ b o hb (hs₁.extBut b o hb (Heap.get?_push_of_some _ e)))
end
section
variable {X : Cx} {pins : List (Addr × Obj)} {σ : L2.St} {H : Hp} {s : Shared}
theorem pg_tupH {es : List Expr} {k : Nat} {t : TGs} {pos : Pos} (K : PySem.W.Frag) (n : Nat) (hK : X.K = K) (hot : L2H.HotC X) (h : PGs X es t)
    (hn : (assignEach es X.env).length = n := by rfl) (hst : (assignEach es X.env).findIdx? (fun x => x.1) = none := by rfl) : PG X (.Tuple es k pos) (gTup K n t) := by
  subst hK
  refine ⟨fun pins s σ H v u Q I r hw => ?_⟩
  obtain ⟨a, xs, e1, hq, hl, hw⟩ := hw
  subst e1
  cases r
  obtain ⟨its, rv, ht, hz⟩ := I.tuple hq
  obtain ⟨x1, hx1⟩ := hot.at I
  refine assign_pair_hot hx1 ht (by simp [hn, ← hl, rv.length]) hst fun h' hx => ?_
  have I1 : Inv X pins σ H { s with heap := h' } := I.kept (t' := s.toks) fun b o e => hx b o (Nat.ne_of_lt (Heap.lt_size e)) e
  exact h.run pins _ σ H xs _ Q I1 (by simpa using rv) hw
abbrev blkH (X : Cx) (s : Shared) (H : Hp) (scope : Scope) (cenv : Env) (fp : List Addr) : Cx := { X.blk s H scope cenv fp with pn := X.pn }
theorem block_startH {scope : Scope} {own : List (Str × Nat)} {fp : List Addr} (I : Inv X pins σ H s) (ok : BlkOk X.N X.env.scope scope own) (hN : X.N.Nodup) (hfp : ∀ b ∈ fp, FpOk X pins H b ∧ b < s.heap.objs.size) :
    Inv (blkH X s H scope (compEnvC scope (cellsFrom (s.heap.objs.size + 1) scope.names (cloFrom X.env.cells scope.names [])) s.heap.objs.size X.env) fp) [] (wipe σ (own.map (·.2))) H { s with heap := pushCells (s.heap.push { cls := .type "dict", data := .dict #[] }) scope.names } := by
  have B := block_start I ok hN hfp
  have kp : ∀ b o, s.heap.get? b = some o → (pushCells (s.heap.push { cls := .type "dict", data := .dict #[] }) scope.names).get? b = some o := fun b o e => pushCells_keeps _ _ _ _ (Heap.get?_push_of_some _ e)
  obtain ⟨a1, a2, a3, a4, a5, a6, a7, a8, a9, a10, a11, a12, a13, a14, a15, a16, a17, a18⟩ := B.ok
  refine ⟨⟨a1, a2, a3, a4, a5, a6, a7, a8, a9, a10, a11, a12, a13, a14, a15, a16, a17, a18⟩, B.os, B.bare, B.base, B.loc, B.cell, B.free, B.freeC, fun p hp => ?_, B.hok, B.len⟩
  have hp' : p ∈ X.pn := by simpa using (show p ∈ X.pn ++ [] from hp)
  have P1 := I.pin p (List.mem_append_left _ hp')
  exact ⟨kp _ _ P1.1, P1.2.1, Nat.ne_of_lt (Heap.lt_size P1.1), fun hm => (List.mem_cons.mp (I.stkSub p.1 hm)).elim P1.2.2.1 P1.2.2.2.1, P1.2.2.2.2⟩
theorem lc_coreH {pins : List (Addr × Obj)} {s : Shared} {σ : L2.St} {H : Hp} {Q : VK} {elt tg iter : Expr} {ifs : List Expr} {scope : Scope} {own : List (Str × Nat)} {pos pos' : Pos} {wi : TI} {g : TG} {tt : TT} {te : TE} {use : Option (Value → Sem Unit)} {Qf : Value → Shared → Prop}
    (hot : L2H.HotC X) (hN : X.N.Nodup) (I : Inv X pins σ H s) (hi : L2H.PIH X tg iter wi) (ok : BlkOk X.N X.env.scope scope own)
    (hg : ∀ (s : Shared) (H : Hp) (C : Addr) (cl : List (Str × Addr)) (fp : List Addr), PG (blkH X s H scope (compEnvC scope cl C X.env) fp) tg g) (ht : ∀ (s : Shared) (H : Hp) (C : Addr) (cl : List (Str × Addr)) (fp : List Addr), PTs (blkH X s H scope (compEnvC scope cl C X.env) fp) ifs tt)
    (he : ∀ (s : Shared) (H : Hp) (C : Addr) (cl : List (Str × Addr)) (fp : List Addr), PE (blkH X s H scope (compEnvC scope cl C X.env) fp) elt te) (hs : ∀ x, foldedSetIterable iter X.env x = pure x)
    (h : tLc wi g tt te (own.map (·.2)) σ H Q)
    (hRR : ∀ D C s' m H', Inv X pins σ H' s' → Q (.ref D) H' → s'.heap.Ns C m → FpOk X pins H' C → compPost (model X.prog X.w) X.A X.xe use Qf (.ref D) C (.ok .next) s') :
    wpAny (model X.prog X.w) X.A (comprehension (.ListComp elt [⟨tg, iter, ifs, 0⟩] scope pos) scope X.env pos' (newList []) false (eval iter X.env) use) Qf X.xe s := by
  have hfree : ∀ y ∈ scope.names, y.2 = .free → ∃ c, X.env.cells.lookup y.1 = some c := fun y hy e => by
    rcases ok.free y hy e with k | k
    · exact I.ok.has _ (.inl k)
    · exact I.ok.has _ (.inr k)
  refine wpAny_comprehension_free (use := use) rfl hs (closure_ok hfree) ok.kind (fun y hy e => by rw [ok.uniq y hy, e])
    (thn (hi.run pins s σ H _ I h) fun xv s1 hx => thn hx fun itv s2 h2 => ?_)
  obtain ⟨it, fp, tn, J, H2, e, I2, T, st2, f2, q⟩ := h2
  subst e
  refine wpAny_newObj_type (newEnv_comp ?_) (by show 0 ≤ sizeLine; decide)
  generalize hD : s2.heap.objs.size = D
  have hDn : H2 D = none := I2.hok.fresh (Nat.le_of_eq hD)
  obtain ⟨W, ⟨m0, w0⟩, turn⟩ := q D hDn
  -- the new list
  generalize hs3 : ({ s2 with heap := s2.heap.push { cls := .type "list", data := .seq ([] : List Value).toArray } } : Shared) = s3
  have I3 : Inv X pins σ (upd H2 D (.lst [])) s3 := by
    rw [← hs3]
    refine I2.laid (t' := s2.toks) (fun b o e => Heap.get?_push_of_some _ e) (Nat.le_of_eq hD) ⟨Nat.zero_le _, [], 0, .nil, ?_⟩
    rw [← hD]
    exact Heap.get?_push_size _ rfl
  have h3 : s3.heap = s2.heap.push { cls := .type "list", data := .seq ([] : List Value).toArray } := by rw [← hs3]
  have sz : ∀ b ∈ fp, b < s2.heap.objs.size := fun b hb => by
    obtain ⟨o, e, _⟩ := T.obj _ _ st2 b hb
    exact Heap.lt_size e
  have f3 : ∀ b ∈ fp, FpOk X pins (upd H2 D (.lst [])) b ∧ b < s3.heap.objs.size := fun b hb => by
    have hlt := sz b hb
    refine ⟨⟨?_, (f2 b hb).2⟩, by rw [h3, Heap.size_push]; exact Nat.lt_succ_of_lt hlt⟩
    rw [upd_ne (by rw [← hD]; exact Nat.ne_of_lt hlt)]
    exact (f2 b hb).1
  have st3 : tn 0 s3.heap := T.keep _ _ _ st2 fun b _ o e => by rw [h3]; exact Heap.get?_push_of_some _ e
  have I4 := block_startH I3 ok hN f3
  have pg := hg s3 (upd H2 D (.lst [])) s3.heap.objs.size (cellsFrom (s3.heap.objs.size + 1) scope.names (cloFrom X.env.cells scope.names [])) fp
  have pt := ht s3 (upd H2 D (.lst [])) s3.heap.objs.size (cellsFrom (s3.heap.objs.size + 1) scope.names (cloFrom X.env.cells scope.names [])) fp
  have pe := he s3 (upd H2 D (.lst [])) s3.heap.objs.size (cellsFrom (s3.heap.objs.size + 1) scope.names (cloFrom X.env.cells scope.names [])) fp
  show codeAny _ _ (.compStart (.ListComp elt [⟨tg, iter, ifs, 0⟩] scope pos) 0 (.ref it) (.ref D) (compEnvC scope (cellsFrom (s3.heap.objs.size + 1) scope.names (cloFrom X.env.cells scope.names [])) s3.heap.objs.size X.env)) (compPost (model X.prog X.w) X.A X.xe use Qf (.ref D) s3.heap.objs.size) { s3 with heap := pushCells (s3.heap.push { cls := .type "dict", data := .dict #[] }) scope.names }
  have nfp : ∀ b ∈ fp, (upd H2 D (.lst [])) b = none := fun b hb => (f3 b hb).1.1
  generalize hce : compEnvC scope (cellsFrom (s3.heap.objs.size + 1) scope.names (cloFrom X.env.cells scope.names [])) s3.heap.objs.size X.env = ce at I4 pg pt pe ⊢
  have cL : ce.locals = s3.heap.objs.size := by subst hce; rfl
  generalize hH3 : upd H2 D (.lst []) = H3 at I3 I4 pg pt pe w0 nfp f3
  generalize hs4 : ({ s3 with heap := pushCells (s3.heap.push { cls := .type "dict", data := .dict #[] }) scope.names } : Shared) = s4 at I4 ⊢
  have st4 : tn 0 s4.heap := T.keep _ _ _ st3 fun b _ o e => by rw [← hs4]; exact pushCells_keeps _ _ _ _ (Heap.get?_push_of_some _ e)
  have stat : ∀ {σ' : L2.St} {H' : Hp} {s' : Shared}, Inv (blkH X s3 H3 scope ce fp) [] σ' H' s' → (∀ b ∈ fp, H' b = none) → ∀ b ∈ fp, FpOk (blkH X s3 H3 scope ce fp) [] H' b := fun {σ' H' s'} I' hn b hb =>
    ⟨hn b hb, (I'.ok.exf b hb).1, I'.ok.exfs b hb, .inl hb, fun x c e => (I'.ok.exf b hb).2 x c e, fun p hp => (f3 b hb).1.2.2.2.2.2 p (List.mem_append_left _ (by simpa using (show p ∈ X.pn ++ [] from hp)))⟩
  have loop : codeAny (model X.prog X.w) X.A (.compLoop (.ListComp elt [⟨tg, iter, ifs, 0⟩] scope pos) 0 (.ref it) (.ref D) ce) (compPost (model X.prog X.w) X.A X.xe use Qf (.ref D) s3.heap.objs.size) s4 := by
    refine compLoop_any (fun n s' => ∃ i H', Inv (blkH X s3 H3 scope ce fp) [] (wipe σ (own.map (·.2))) H' s' ∧ tn i s'.heap ∧ (∀ b ∈ fp, H' b = none) ∧ W i n H') ?_ m0 ⟨0, H3, I4, st4, nfp, w0⟩
    rintro n s5 ⟨i, H5, I5, st5, n5, w5⟩
    rcases turn i n H5 w5 with ⟨stop, qq⟩ | ⟨go, Nx, hNx, step⟩
    · have td := T.done (blkH X s3 H3 scope ce fp) rfl rfl rfl hot i [] s5 _ H5 (fun _ _ => False) I5 (stat I5 n5) st5 stop
      refine thnF td fun r s6 ⟨hr, I6⟩ => ?_
      subst hr
      -- back in the def's context
      have I7 : Inv X pins σ H5 s6 := I3.call' (ch := fp) I6.os I6.base I6.hok I6.bare fun b hb => ⟨(f3 b hb).1.2.2.2.1, (f3 b hb).1.2.1, (f3 b hb).1.2.2.2.2.1, (f3 b hb).1.2.2.2.2.2⟩
      have nC : H5 s3.heap.objs.size = none := by
        have z : H5 ce.locals = none := I6.free
        rw [cL] at z
        exact z
      obtain ⟨m, hn, _⟩ := I6.loc
      have hn : s6.heap.Ns ce.locals m := hn
      rw [cL] at hn
      exact hRR D s3.heap.objs.size s6 m H5 I7 qq hn (I3.fpOk (Nat.le_refl _) nC)
    · have ti := T.item (blkH X s3 H3 scope ce fp) rfl rfl rfl hot i [] s5 _ H5 (fun _ _ => False) I5 (stat I5 n5) st5 go
      refine thnF ti fun r s6 ⟨u, hr, h6⟩ => ?_
      subst hr
      refine thnF h6 fun _ s7 ⟨x, H7, I7, r7, y7, st7, n7⟩ => ?_
      have I7' := I7.pinned (stat I7 n7) (T.obj _ _ st7)
      refine thnF (pg.run _ s7 _ H7 x u _ I7' r7 (step x H7 y7)) fun _ s8 ⟨σ8, H8, I8, hw8, q8⟩ => ?_
      refine thnF (pt.run _ s8 σ8 H8 _ I8 q8) fun b s9 ⟨H9, I9, q9⟩ => ?_
      -- the turn's end
      have fin : ∀ {s' : Shared} {H' : Hp}, Inv (blkH X s3 H3 scope ce fp) ([] ++ pinsAt fp s7.heap) σ8 H' s' → Nx H' → ∃ m, m < n ∧ ∃ i H', Inv (blkH X s3 H3 scope ce fp) [] (wipe σ (own.map (·.2))) H' s' ∧ tn i s'.heap ∧ (∀ b ∈ fp, H' b = none) ∧ W i m H' := fun {s' H'} I' nx => by
        obtain ⟨m', hm, w'⟩ := hNx H' nx
        have pin' : ∀ b ∈ fp, ∀ o, s7.heap.get? b = some o → s'.heap.get? b = some o ∧ H' b = none := fun b hb o e =>
          let z := I'.pin (b, o) (List.mem_append_right _ (List.mem_append_right _ (mem_pinsAt hb e)))
          ⟨z.1, z.2.1⟩
        have hl : (wipe σ (own.map (·.2))).length = σ8.length := by rw [← hw8, wipe_length]
        refine ⟨m', hm, i + 1, H', (I'.unpinned (pins := [])).weak hl (fun j v e => ?_), T.keep _ _ _ st7 fun b hb o e => (pin' b hb o e).1, fun b hb => ?_, w'⟩
        · rw [← hw8] at e
          exact (wipe_some e).1
        · obtain ⟨o, e, _⟩ := T.obj _ _ st7 b hb
          exact (pin' b hb o e).2
      cases b with
      | false =>
        simp only [Bool.false_eq_true, if_false] at q9 ⊢
        exact fin I9 q9
      | true =>
        simp only [if_true] at q9 ⊢
        refine thnF (pe.run _ s9 σ8 H9 _ I9 q9) fun z s10 ⟨yv, H10, I10, r10, acc, hD10, hz10, nx⟩ => ?_
        exact app_ok (X := blkH X s3 H3 scope ce fp) I10 hD10 hz10 r10 fun s11 I11 => fin I11 nx
  exact codeAny_compStart_list loop (T.self X.A 0 _ _ _ st4 loop)
theorem ps_setLcH {i : Nat} {y : Str} {py : Pos} {elt tg iter : Expr} {ifs : List Expr} {scope : Scope} {own : List (Str × Nat)} {pos spos : Pos} {wi : TI} {g : TG} {tt : TT} {te : TE} (hot : L2H.HotC X) (hN : X.N.Nodup) (hy : X.N[i]? = some y) (hyl : X.env.scope.names.lookup y = some .local)
    (hsw : swapsWith (.ListComp elt [⟨tg, iter, ifs, 0⟩] scope pos) (some (.Name y py)) spos.line X.env = pure true) (hi : L2H.PIH X tg iter wi) (ok : BlkOk X.N X.env.scope scope own)
    (hg : ∀ (s : Shared) (H : Hp) (C : Addr) (cl : List (Str × Addr)) (fp : List Addr), PG (blkH X s H scope (compEnvC scope cl C X.env) fp) tg g) (ht : ∀ (s : Shared) (H : Hp) (C : Addr) (cl : List (Str × Addr)) (fp : List Addr), PTs (blkH X s H scope (compEnvC scope cl C X.env) fp) ifs tt)
    (he : ∀ (s : Shared) (H : Hp) (C : Addr) (cl : List (Str × Addr)) (fp : List Addr), PE (blkH X s H scope (compEnvC scope cl C X.env) fp) elt te) (hs : ∀ x, foldedSetIterable iter X.env x = pure x := by intro _; rfl) :
    PS X (.Assign [.Name y py] (.ListComp elt [⟨tg, iter, ifs, 0⟩] scope pos) spos) (tAsg (tLc wi g tt te (own.map (·.2))) (gName i)) := by
  refine ⟨fun pins s σ H D I h => ?_⟩
  rw [exec_Assign_Name_used _ _ _ _ hsw]
  refine wpAny_bind (wpAny_standAt (wpAny_bind ?_))
  show wpAny _ X.A (do let _ ← comprehension (.ListComp elt [⟨tg, iter, ifs, 0⟩] scope pos) scope X.env (firstIterPos [⟨tg, iter, ifs, 0⟩] pos) (newList []) false (eval iter X.env) (some (assign (.Name y py) X.env))) _ _ s
  have h : tLc wi g tt te (own.map (·.2)) σ H (fun x H1 => gName i x σ H1 D.nx) := h
  refine wpAny_bind (thn (lc_coreH (Qf := fun _ s' => SP X pins D .next s') hot hN I hi ok hg ht he hs h fun L C s' m H' I' q hn f => ?_) fun _ s' hq => wpAny_pure (wpAny_pure hq))
  show wpAny _ _ (assign (.Name y py) X.env (.ref L)) _ _ _
  refine wpAny_assign_Name (store_ok2 (v := V.ref L) I' hN hy (.inl hyl) rfl (fun s2 I2 ⟨a, sb, ha⟩ => ?_) (.inr hyl))
  obtain ⟨f0, f1, f2, f3, f4, f5⟩ := f
  have haC : C ≠ a := by
    rcases ha with z | z
    · rw [z]; exact f1
    · exact fun e => f4 y a z e.symm
  refine ⟨m, hn.sameBut sb haC, fun h3 sb3 => ?_⟩
  exact ⟨_, H', I2.turned (t' := s2.toks) (fun b o hb e => (sb3.2 b hb).trans e) f0 f1 f3 f4 f5, q⟩
end
end Tlg
/-! A lambda handed to a def, where what is raised tells that its context is None. The proofs are those of the plain form, turned. -/
namespace Tlg
open PySem PySem.Spec PyProof.Rows L2 LamX
open Evl (Ex EvT EvO ex_l ex_t)
def lamCxN (X : Cx) (A : Around) (outer : List Env) (s : Shared) (H : Hp) (E : XK) (scope : Scope) (f c' : Addr) : Cx where
  prog := X.prog
  w := X.w
  K := X.K
  mg := X.mg
  base := X.base
  A := A.deeper (lamEnv X scope s.heap.objs.size f c')
  N := X.N
  s_0 := s
  H_0 := H
  env := lamEnv X scope s.heap.objs.size f c'
  outer := outer
  stack := lamEnv X scope s.heap.objs.size f c' :: outer
  ex := []
  fn := fun _ => false
  calm := true
  pn := []
  xe := fun e s' => wpAny (model X.prog X.w) (A.deeper (lamEnv X scope s.heap.objs.size f c')) (leaving (lamEnv X scope s.heap.objs.size f c') e) (fun _ s'' => L2N.CX X.prog X.w outer H s E e s'') (fun e' s'' => L2N.CX X.prog X.w outer H s E e' s'') s'
section
variable {X : Cx} {pins : List (Addr × Obj)} {σ : L2.St} {H HZ : Hp} {s s1 : Shared}
theorem lam_start2N {A : Around} {outer : List Env} {E : XK} {scope : Scope} {f c' : Addr} {h₁ : Heap} {tk : Nat} (I : Inv X pins σ H s) (L : LamS X.env.scope scope) (e0 : Env0 X.prog X.w X.K X.mg X.base A outer s1 HZ) (hd : A.handled = none)
    (un : Un (frs X.stack) [] H HZ s.heap s1.heap) (hns : h₁.Ns s1.heap.objs.size fun y => ([] : List (Str × Value)).reverse.lookup y) (kp : ∀ b o, s1.heap.get? b = some o → h₁.get? b = some o) :
    Inv (lamCxN X A outer s1 HZ E scope f c') [] σ HZ { s1 with heap := h₁, toks := tk } := by
  have hfree := L.has I.ok
  have cm : ∀ {y c}, (cloFrom X.env.cells scope.names []).lookup y = some c → X.env.cells.lookup y = some c := fun {y c} e => by
    rcases cloFrom_mem (PySem.mem_of_lookup e) with hm | ⟨h1, h2⟩
    · cases hm
    · obtain ⟨c1, hc⟩ := hfree _ h1 rfl
      have hc : X.env.cells.lookup y = some c1 := hc
      have e2 : c = c1 := by
        rw [h2, hc] <;> rfl
      rw [e2]
      exact hc
  have look : ∀ {y}, scope.names.lookup y = some .free → ∃ c, (cloFrom X.env.cells scope.names []).lookup y = some c := fun {y} hl => by
    have hy : (y, NameKind.free) ∈ scope.names := PySem.mem_of_lookup hl
    exact mem_lookup (cloFrom_has (cells := X.env.cells) (acc := []) hy)
  have cellK : ∀ {c : Addr} {v : Option Value}, H c = none → s.heap.IsCell c v → h₁.IsCell c v := fun {c v} n ⟨o, ho, hd⟩ => by
    obtain ⟨sl, q⟩ := un.any ho n (by simp)
    exact ⟨_, kp _ _ q, hd⟩
  have noA : ∀ b : Addr, b ∉ (lamCxN X A outer s1 HZ E scope f c').ex := fun b z => absurd (show b ∈ ([] : List Addr) from z) (by simp)
  refine ⟨⟨e0.mod, L.kind, rfl, rfl, Nat.le_refl _, fun y z c e1 e2 => I.ok.inj y z c (cm e1) (cm e2), fun y hy => ?_, fun y c z _ => ?_, fun _ => hd, Around.frames_deeper e0.frames, .inr ⟨rfl, rfl⟩, fun b z => absurd z (noA b), e0.bs, e0.bsz, fun b _ _ => noA b,
      fun b z => absurd z (noA b), e0.funs, e0.frf⟩,
    rfl, e0.bare, Un.kept kp, ⟨_, hns, fun i y v e1 e2 e3 => ?_⟩, fun y c e => ?_, e0.hok.fresh (Nat.le_refl _), fun y c e => ?_, fun q hq => absurd (show q ∈ ([] : List (Addr × Obj)) ++ [] from hq) (by simp), e0.hok.kept kp, I.len⟩
  · have hy : scope.names.lookup y = some .cell ∨ scope.names.lookup y = some .free := hy
    rcases hy with hy | hy
    · exact absurd rfl (L.own _ (PySem.mem_of_lookup hy)).2
    · exact look hy
  · have z : false = true := z
    cases z
  · have e3 : Vis scope y := e3
    rcases e3 with k | k | k
    · exact absurd rfl (L.own _ (PySem.mem_of_lookup k)).1
    · exact absurd rfl (L.own _ (PySem.mem_of_lookup k)).2
    · obtain ⟨m, hn, hl⟩ := I.loc
      have hvis : Vis X.env.scope y := (L.free _ (PySem.mem_of_lookup k) rfl).elim (fun k => .inr (.inl k)) (fun k => .inr (.inr k))
      obtain ⟨w', r, q⟩ := hl i y v e1 e2 hvis
      obtain ⟨c2, h2⟩ := look k
      refine ⟨w', r, .inr ⟨.inr k, c2, h2, ?_⟩⟩
      have c1 := cm h2
      rcases q with ⟨k', _⟩ | ⟨_, c3, e', z⟩
      · have k' : X.env.scope.names.lookup y = some .local := k'
        rcases L.free _ (PySem.mem_of_lookup k) rfl with k2 | k2 <;> rw [show X.env.scope.names.lookup y = _ from k2] at k' <;> cases k'
      · rw [c1] at e'
        cases e'
        exact cellK (I.freeC y _ c1) z
  · obtain ⟨w', z⟩ := I.cell y c (cm e)
    exact ⟨w', cellK (I.freeC y c (cm e)) z⟩
  · obtain ⟨v, o, ho, hd⟩ := I.cell y c (cm e)
    exact un.free c o ho (I.freeC y c (cm e)) (by simp)
theorem pe_actN {CXg : CXT} {Eg : XK} {Ng : List Str} {qg : Str} {sg : Scope} {g f c' : Addr} {cdg pm ctv : Value} {params : Arguments} {body : Expr} {scope : Scope} {k i : Nat} {a : Str} {pn : List (Addr × Obj)} {xe : Value → Shared → Prop} {W : WX} {tb : XK → TE} {p1 p2 : Pos}
    (I : Inv X pins σ H s) (L : LamS X.env.scope scope) (hf : s.heap.get? f = some (PySem.W.kla_obj "<lambda>" (X.env.qual ++ "<lambda>") params body scope (cloFrom X.env.cells scope.names []) pm c' ctv)) (hfn : H f = none) (hfr : f ∉ frs X.stack)
    (hbind : bindArgs (PySem.W.kla_fn "<lambda>" (X.env.qual ++ "<lambda>") params body scope (cloFrom X.env.cells scope.names []) pm (.ref c') ctv) ⟨[], []⟩ = pure [])
    (tk : L2N.Takes ((cxOf CXg X.prog X.w X.K X.mg X.base Ng qg sg g cdg X.A X.stack s H Eg).tr pn xe) W) (hr : Room (k + 1) (X.A.deeper (envOfC qg sg s.heap.objs.size g cdg)))
    (hbody : ∀ (A : Around) (outer : List Env) (s : Shared) (H : Hp) (E : XK), Room k (A.deeper (lamEnv X scope s.heap.objs.size f c')) → PE (lamCxN X A outer s H E scope f c') body (tb E))
    (hN : Ng[i]? = some a) (hv : Vis sg a) (hd : (a == ("__debug__" : Str)) = false := by decide) (hcd : (a == ("__classdict__" : Str)) = false := by decide) :
    PE ((cxOf CXg X.prog X.w X.K X.mg X.base Ng qg sg g cdg X.A X.stack s H Eg).tr pn xe) (.Call (.Name a p1) [] [] p2)
      (fun σZ HZ Q => σZ[i]? = some (some (.ref f)) ∧ HZ c' = some (CodeO c' (X.env.qual ++ "<lambda>")) ∧ tb (WE W σZ) σ HZ Q) := by
  refine ⟨fun pinsZ sZ σZ HZ Q IZ h => ?_⟩
  obtain ⟨hs, hc, ht⟩ := h
  refine wpAny_Call_Name_kw (thn ((pe_var (pos := p1) (i := i) hN hv hd hcd).run pinsZ sZ σZ HZ (fun v H1 => v = .ref f ∧ H1 = HZ) IZ ⟨.ref f, hs, rfl, rfl⟩) fun u s1 ⟨v, H1, I1, r1, q1⟩ => ?_)
  obtain ⟨ev, eH⟩ := q1
  subst ev
  rw [eH] at I1
  obtain rfl : u = Value.ref f := r1
  have of1 : s1.heap.get? f = some (PySem.W.kla_obj "<lambda>" (X.env.qual ++ "<lambda>") params body scope (cloFrom X.env.cells scope.names []) pm c' ctv) := I1.base.keep f _ hf hfn hfr (fun z => nomatch (show f ∈ ([] : List Addr) from z))
  refine PySem.W.callWith_F0 ⟨_, _, _, _, of1⟩ ?_
  have un : Un (frs X.stack) [] H HZ s.heap s1.heap := I1.base
  obtain ⟨⟨oc, vs, t, hoc, hdc, hvc⟩, _, _⟩ := I1.hok c' _ hc
  have rc : codeAny (model X.prog X.w) (X.A.deeper (envOfC qg sg s.heap.objs.size g cdg)) (.call (.ref f) ⟨[], []⟩) (CR (L2N.CX X.prog X.w) (envOfC qg sg s.heap.objs.size g cdg :: X.stack) X.prog X.w HZ s1 Q (WE W σZ)) s1 := by
    refine PySem.W.kla_callFunE hr.depth of1 rfl L.co L.gen rfl ⟨c', oc, vs, t, rfl, hoc, hdc, hvc⟩ ?_
    rw [hbind]
    refine wpAny_pure (wpAny_newFunctionEnv (fun y hy => (L.own y hy).2) (fun y hy => absurd hy (by simp)) (fun h₁ hns hsb => ⟨I1.nolimit.fresh _ hsb, ?_⟩) L.kind)
    show codeAny _ _ (.expr body (lamEnv X scope s1.heap.objs.size f c')) _ _
    have kp : ∀ b o, s1.heap.get? b = some o → h₁.get? b = some o := fun b o e => hsb.extBut b o (Nat.ne_of_lt (Heap.lt_size e)) (Heap.get?_push_of_some _ e)
    have J : Inv (lamCxN X (X.A.deeper (envOfC qg sg s.heap.objs.size g cdg)) (envOfC qg sg s.heap.objs.size g cdg :: X.stack) s1 HZ (WE W σZ) scope f c') [] σ HZ { s1 with heap := h₁, toks := s1.toks + ([] : List (Str × Value)).length } :=
      lam_start2N I L I1.env0 hr.hd un hns kp
    refine PySem.W.kla_codeExpr (wpAny_mono ((hbody _ _ s1 HZ (WE W σZ) (hr.deeper _)).run [] _ _ HZ Q J ht) (fun v s' hq => ?_) fun e s' hq => hq)
    obtain ⟨w', H', J', rv, q⟩ := hq
    exact ⟨w', H', J'.os, J'.bare, J'.base, J'.hok, rv, q⟩
  refine wpAny_call (codeAny_mono rc fun r s' hq => ?_)
  cases r with
  | error e => exact L2N.passAt tk σZ pinsZ HZ s1 e s' I1 hq
  | ok fl =>
    cases fl with
    | ret u => exact I1.after hq
    | next => exact False.elim hq
    | brk => exact False.elim hq
    | cont => exact False.elim hq
end
def GivesToN (X : Cx) (Ng : List Str) (x : Str) (sg : Scope) (g : Addr) (cdg : Value) (bg : List Stmt) (a : Str) (q : Str) (TT : (XK → Hp → VK → Prop) → Hp → VK → Prop) : Prop :=
  ∀ (f c' : Addr) (s : Shared) (H : Hp) (Q : VK) (tl : XK → Hp → VK → Prop),
    (∀ (W : WX) (pn : List (Addr × Obj)) (xe : Value → Shared → Prop) (p1 p2 : Pos), L2N.Takes ((cxOf C8.CX0 X.prog X.w X.K X.mg X.base Ng x sg g cdg X.A X.stack s H C8.E0).tr pn xe) W →
      PE ((cxOf C8.CX0 X.prog X.w X.K X.mg X.base Ng x sg g cdg X.A X.stack s H C8.E0).tr pn xe) (.Call (.Name a p1) [] [] p2) (fun σZ HZ Q => σZ[0]? = some (some (.ref f)) ∧ HZ c' = some (CodeO c' q) ∧ tl (WE W σZ) HZ Q)) →
    H c' = some (CodeO c' q) → TT tl H Q →
    ∃ t, PSs (cxOf C8.CX0 X.prog X.w X.K X.mg X.base Ng x sg g cdg X.A X.stack s H C8.E0).nox bg t ∧ t { nx := fun _ H' => Q .non H', rt := Q } (L2.start Ng [.ref f]) H
section
variable {X : Cx}
theorem pe_lamcallN {T : List (Addr × Str)} {TT : (XK → Hp → VK → Prop) → Hp → VK → Prop} {x a : Str} {g c P : Addr} {k : Nat} {pg : Arguments} {bg : List Stmt} {sg : Scope} {dV kV doc pm cdv ct oc : Value} {an od : Option Addr} {osl : Array (Option Value)} {Ng : List Str}
    {params : Arguments} {body : Expr} {scope : Scope} {t : XK → TE} {p lpos pos : Pos} (hg : Gl X x) (hm : X.mg x = some (.ref g)) (hk : PySem.W.keepIn X.K (.ref g) = true)
    (lk : X.K.lookup g = some ⟨oc, od, .func (PySem.W.fnOf x x pg bg sg dV kV doc pm an cdv ct), osl⟩) (hcg : PySem.W.codeIn X.K cdv x = true) (hb : L2.Binds X.K (PySem.W.fnOf x x pg bg sg dV kV doc pm an cdv ct) [a] []) (Sg : FnScope Ng [a] sg) (hNg : Ng[0]? = some a) (hva : Vis sg a)
    (hG : GivesToN X Ng x sg g cdv bg a (X.env.qual ++ "<lambda>") TT)
    (TB : TabB X.base X.mg c P) (hcode : X.env.code = .ref c) (hmT : (P, X.env.qual ++ "<lambda>") ∈ T) (hu : ∀ p ∈ T, p.1 = P → p.2 = X.env.qual ++ "<lambda>") (hr : Room (k + 2) X.A) (L : LamS X.env.scope scope) (hdef : defaultsOf params X.env = ([], []))
    (hbind : ∀ (q : Str) (cl : List (Str × Addr)) (pm cv ctv : Value), bindArgs (PySem.W.kla_fn "<lambda>" q params body scope cl pm cv ctv) ⟨[], []⟩ = pure [])
    (hbody : ∀ (A : Around) (outer : List Env) (s : Shared) (H : Hp) (E : XK) (f c' : Addr), Room k (A.deeper (lamEnv X scope s.heap.objs.size f c')) → PE (lamCxN X A outer s H E scope f c') body (t E))
    (hdb : (x == ("__debug__" : Str)) = false := by decide) (hd : (a == ("__debug__" : Str)) = false := by decide) (hcd : (a == ("__classdict__" : Str)) = false := by decide) :
    PE X (.Call (.Name x p) [.Lambda params body scope lpos] [] pos) (tLam T TT t) := by
  refine ⟨fun pins s σ H Q I h => ?_⟩
  obtain ⟨hT, h⟩ := h
  refine wpAny_Call_Name_kw (ld_glob I hg hm ?_ hdb)
  refine PySem.W.callWith_K (h₀ := X.base) I.ok.mod.kin hk ?_ (by rfl) (by rfl)
  show wpAny _ _ (spliced ((false, eval (.Lambda params body scope lpos) X.env) :: backTo pos (starEach [] X.env))) _ _ s
  refine Calls.spliced_cons (lam_make2 I TB hcode hmT hu hT hdef (L.has I.ok) fun f c' pm' ctv H1 s' I1 eN T1 hf hfn hfr hco => ?_)
  refine Calls.spliced_nil ⟨I1.kIn, ?_⟩
  have rc : codeAny (model X.prog X.w) X.A (.call (.ref g) ⟨[.ref f], []⟩) (CR C8.CX0 X.stack X.prog X.w H1 s' Q C8.E0) s' := by
    refine run_ofS (N := Ng) (ps := [a]) (us := [.ref f]) (vs := [.ref f]) lk hcg Sg hr I1.env0 (hb s' [.ref f] I1.kIn rfl) (.cons rfl .nil) rfl fun hr' => ?_
    obtain ⟨t', ht', hq'⟩ := hG f c' s' H1 Q (fun E H' Q' => t E σ H' Q') (fun W pn xe p1 p2 tk => pe_actN (tb := fun E σ H' Q' => t E σ H' Q') (i := 0) I1 L hf hfn hfr (hbind _ _ _ _ _) tk hr' (fun A outer s H E hr2 => hbody A outer s H E f c' hr2) hNg hva hd hcd) hco (h H1 eN T1)
    exact ⟨t', ht'.nox, hq'⟩
  refine wpAny_call (codeAny_mono rc fun r s2 hq => ?_)
  cases r with
  | error e => exact (show False from hq).elim
  | ok fl =>
    cases fl with
    | ret u => exact I1.after hq
    | next => exact False.elim hq
    | brk => exact False.elim hq
    | cont => exact False.elim hq
end
/-! ### defs that raise so -/
theorem takesN0 {X : Cx} : L2N.Takes X (fun _ _ _ _ => False) := fun _ _ x => by
  obtain ⟨_, _, _, _, _, _, _, _, _, _, _, _, _, _, _, _, z⟩ := x
  exact z.elim
theorem fun_okN {P : Program} {w : World} {K : PySem.W.Frag} {mg : Str → Option Value} {base : Heap} {x qual : Str} {st : Stmt} {f : Addr} {fd : FuncData} {N ps : List Str} {k : Nat} {sp : Sp} (F : Fun K x qual st f fd) (S : FnScope N ps (defScope st)) (len : ∀ vs H Q E, sp vs H Q E → vs.length = ps.length)
    (hbody : ∀ (cdv : Value) (A : Around) (outer : List Env) (s : Shared) (H : Hp) (vs : List V) (Q : VK) (E : XK), Room k (A.deeper (envOfC qual (defScope st) s.heap.objs.size f cdv)) → sp vs H Q E →
      ∃ t, PSs (cxOf (L2N.CX P w) P w K mg base N qual (defScope st) f cdv A outer s H E) (defBody st) t ∧ t { nx := fun _ H' => Q .non H', rt := Q } (start N vs) H) : FnOk P w K mg base (L2N.CX P w) (k + 1) f fd ps sp := by
  obtain ⟨oc, od, kV, doc, pm, an, cdv, ct, osl, rfl, lk, hcd⟩ := F.ex
  exact fn_of lk hcd S len fun A outer s H vs Q E hr hsp => hbody cdv A outer s H vs Q E hr hsp
/-- isinstance(e, c), e the exception that is handled, in any context that knows it -/
theorem call_isP {X : Cx} {a D : Addr} {oe : Obj} (hp : (a, oe) ∈ X.pn) (C : ExcC X.K D) (hz : Zc (.ref D) none oe) (hf : ∃ vs, oe.data = .fields vs) : CallR X (.builtin "isinstance") (rIsE X.K D a) := by
  intro pins s σ H xs us Q I r h
  obtain ⟨c, cv, b, rfl, hcv, e, q⟩ := h
  cases r with
  | cons rx rr =>
    cases rr with
    | cons rt rr =>
      cases rr
      cases rx
      have ec := hcv _ rt
      subst ec
      obtain ⟨hget, _⟩ := I.pin (a, oe) (List.mem_append.mpr (.inl hp))
      obtain ⟨vs, hv⟩ := hf
      have J : PySem.W.InstAt s.heap a oe D none := by
        obtain ⟨oc, od, oda, osl⟩ := oe
        obtain ⟨h1, h2⟩ := hz
        dsimp only at h1 h2 hv
        subst h1 h2 hv
        exact ⟨hget, rfl, rfl, trivial⟩
      exact PySem.W.kia_one (PySem.W.handS_kitx_exc C.hg C.hk C.hs C.hd C.ha C.hn C.ht C.hm) I.kIn J e (fun z => nomatch z) fun tk => ⟨.bl b, H, I.kept (t' := tk) fun _ _ z => z, rfl, q⟩

section
open L2H
structure FnP (G : Addr × Obj → List V → Prop) (P : Program) (w : World) (K : PySem.W.Frag) (mg : Str → Option Value) (base : Heap) (CX : CXT) (k : Nat) (f : Addr) (fd : FuncData) (ps : List Str) (sp : Sp) : Prop where
  len : ∀ vs H Q E, sp vs H Q E → vs.length = ps.length
  run : ∀ (A : Around) (outer : List Env) (s : Shared) (H : Hp) (args : Args) (us : List Value) (vs : List V) (Q : VK) (E : XK) (p : Addr × Obj), RoomH k A → Hot1 A p → G p vs → PinOk outer H s p → Env0 P w K mg base A outer s H → BindsTo s fd args (ps.zip us) → Vals vs us → sp vs H Q E →
    codeAny (model P w) A (.call (.ref f) args) (CR CX outer P w H s Q E) s
theorem fn_ofP {CX : CXT} {P : Program} {w : World} {K : PySem.W.Frag} {mg : Str → Option Value} {base : Heap} {k : Nat} {f : Addr} {name qual : Str} {params : Arguments} {body : List Stmt} {scope : Scope} {dV kV doc pm cdv ct oc : Value} {an od : Option Addr}
    {osl : Array (Option Value)} {N ps : List Str} {sp : Sp} {G : Addr × Obj → List V → Prop} (lk : K.lookup f = some ⟨oc, od, .func (PySem.W.fnOf name qual params body scope dV kV doc pm an cdv ct), osl⟩) (hcd : PySem.W.codeIn K cdv qual = true) (S : FnScope N ps scope)
    (len : ∀ vs H Q E, sp vs H Q E → vs.length = ps.length)
    (hbody : ∀ (A : Around) (outer : List Env) (s : Shared) (H : Hp) (vs : List V) (Q : VK) (E : XK) (p : Addr × Obj), Hot1 A p → G p vs → RoomH k (A.deeper (envOfC qual scope s.heap.objs.size f cdv)) → sp vs H Q E →
      ∃ t, PSs (cxH CX P w K mg base N qual scope f cdv A outer s H E p) body t ∧ t { nx := fun _ H' => Q .non H', rt := Q } (L2.start N vs) H) :
    FnP G P w K mg base CX (k + 1) f (PySem.W.fnOf name qual params body scope dV kV doc pm an cdv ct) ps sp := by
  refine ⟨len, fun A outer s H args us vs Q E p hr hot hG hpin e0 hb r hsp => ?_⟩
  have hl := len _ _ _ _ hsp
  have KX : K.In s.heap := e0.mod.kin.keeps fun b o e => (e0.bs b o e).1
  have lim : s.heap.NoLimit := e0.mod.nolimit.keeps fun b o e => (e0.bs b o e).1
  have hkind : ∀ y ∈ ps.zip us, scope.names.lookup y.1 = some .local ∨ (scope.names.lookup y.1 = some .cell ∧ ((cellsFrom (s.heap.objs.size + 1) scope.names []).lookup y.1).isSome = true) := fun ⟨n, v⟩ hy => by
    rcases S.par n (List.of_mem_zip hy).1 with q | q
    · exact .inl q
    · exact .inr ⟨q, PySem.W.cellsFrom_some _ _ _ (.inl q)⟩
  refine codeAny_call_function hr.depth (KX _ _ lk) rfl S.co S.gen rfl (PySem.W.codeRec_of KX hcd) (hb _ _ _ _ ?_)
  refine wpAny_newFunctionEnv_cells S.kind hkind fun env he s1 x => ?_
  subst he
  refine ⟨lim.keeps x.toInCall.keep, codeAny_func ?_⟩
  obtain ⟨t, ht, hq⟩ := hbody A outer s H vs Q E p hot hG (hr.deeper _) hsp
  have I : Inv (cxH CX P w K mg base N qual scope f cdv A outer s H E p) [] (L2.start N vs) H s1 := inv_startH S hpin e0 hl r x
  refine wpAny_mono (ht.run [] s1 (L2.start N vs) H _ I hq) (fun fl s' hs => ?_) fun e s' hs => hs
  have fin : ∀ {σ' : L2.St} {H' : Hp} {v : V} {u : Value}, Inv (cxH CX P w K mg base N qual scope f cdv A outer s H E p) [] σ' H' s' → RelV v u → Q v H' → CE outer P w H s Q u s' :=
    fun {σ' H' v u} J rv q => ⟨v, H', J.os, J.bare, J.base, J.hok, rv, q⟩
  cases fl with
  | ret u =>
    obtain ⟨v, σ', H', J, rv, q⟩ := hs
    exact fin J rv q
  | next =>
    obtain ⟨σ', H', J, q⟩ := hs
    exact fin (v := V.non) (u := Value.none) J rfl q
  | brk =>
    obtain ⟨_, _, _, q⟩ := hs
    exact False.elim q
  | cont =>
    obtain ⟨_, _, _, q⟩ := hs
    exact False.elim q

variable {X : Cx} {CX : CXT} {k : Nat} {f C : Addr} {fd : FuncData} {ps : List Str} {sp : Sp} {E : L2.St → XK} {x m : Str} {q pos apos : Pos} {e o : Expr} {es : List Expr} {ta : TE} {t : TA} {G : Addr × Obj → List V → Prop}
theorem run_fnP {pins : List (Addr × Obj)} {σ : L2.St} {H : Hp} {s : Shared} {Q : VK} {us : List Value} {vs : List V} (F : FnP G X.prog X.w X.K X.mg X.base CX k f fd ps sp) (hr : RoomH k X.A) {p : Addr × Obj} (hot : Hot1 X.A p) (hp : p ∈ X.pn) (hG : G p vs) (hb : Binds X.K fd ps []) (hx : PassesAt CX X σ (E σ))
    (I : Inv X pins σ H s) (r : Vals vs us) (h : sp vs H Q (E σ)) : wpAny (model X.prog X.w) X.A (call (.ref f) us) (EP X pins σ Q) X.xe s := by
  have hl : us.length = ps.length := by rw [← r.length]; exact F.len _ _ _ _ h
  have b := hb s us I.kIn (by rw [List.append_nil]; exact hl)
  rw [List.append_nil] at b
  have P1 := I.pin p (List.mem_append_left _ hp)
  have hpin : PinOk X.stack H s p := ⟨P1.1, P1.2.1, fun hm => (List.mem_cons.mp (I.stkSub p.1 hm)).elim P1.2.2.1 P1.2.2.2.1, P1.2.2.2.2⟩
  refine wpAny_call (codeAny_mono (F.run X.A X.stack s H ⟨us, []⟩ us vs Q (E σ) p hr hot hG hpin I.env0 b r h) fun r s' hq => ?_)
  cases r with
  | error e => exact hx pins H s e s' I hq
  | ok fl =>
    cases fl with
    | ret u => exact I.after hq
    | next => exact False.elim hq
    | brk => exact False.elim hq
    | cont => exact False.elim hq
/-- x(e), x a def of that kind -/
def tCallP (G : Addr × Obj → List V → Prop) (p : Addr × Obj) (sp : Sp) (t : TA) : TE := fun σ H Q => t σ H fun vs H1 => G p vs ∧ sp vs H1 Q E0
theorem pe_callP {p : Addr × Obj} (F : FnP G X.prog X.w X.K X.mg X.base C8.CX0 k f fd ps sp) (hr : RoomH k X.A) (hot : Hot1 X.A p) (hp : p ∈ X.pn) (hg : Gl X x) (hm : X.mg x = some (.ref f)) (hk : PySem.W.keepIn X.K (.ref f) = true) (hb : Binds X.K fd ps [])
    (ha : PA X (e :: es) t) (hdb : (x == ("__debug__" : Str)) = false := by decide) (he : starEach (e :: es) X.env = (false, eval e X.env) :: starEach es X.env := by rfl) (hpl : (backTo pos (starEach es X.env)).any (·.1) = false := by rfl) :
    PE X (.Call (.Name x q) (e :: es) [] pos) (tCallP G p sp t) := by
  refine ⟨fun pins s σ H Q I h => ?_⟩
  refine wpAny_Call_Name_kw (ld_glob I hg hm ?_ hdb)
  refine PySem.W.callWith_K (h₀ := X.base) I.ok.mod.kin hk (thn (ha.run pos pins s σ H _ I h) fun us s1 ⟨vs, H1, I1, r, q⟩ => ⟨I1.kIn, ?_⟩) he hpl
  exact run_fnP (E := fun _ => E0) F hr hot hp q.1 hb (fun _ _ _ _ _ _ h => h.elim) I1 r q.2
structure CalP (G : Addr × Obj → List V → Prop) (P : Program) (w : World) (K : PySem.W.Frag) (mg : Str → Option Value) (base : Heap) (k : Nat) (x : Str) (sp : Sp) : Prop where
  ex : ∃ (f : Addr) (fd : FuncData) (ps : List Str), FnP G P w K mg base C8.CX0 k f fd ps sp ∧ mg x = some (.ref f) ∧ PySem.W.keepIn K (.ref f) = true ∧ Binds K fd ps []
theorem pe_cP {k j : Nat} {p : Addr × Obj} (c : CalP G X.prog X.w X.K X.mg X.base k x sp) (hr : RoomH j X.A) (hk : k ≤ j) (hot : Hot1 X.A p) (hp : p ∈ X.pn) (hg : Gl X x) (ha : PA X (e :: es) t) (hdb : (x == ("__debug__" : Str)) = false := by decide)
    (he : starEach (e :: es) X.env = (false, eval e X.env) :: starEach es X.env := by rfl) (hpl : (backTo pos (starEach es X.env)).any (·.1) = false := by rfl) : PE X (.Call (.Name x q) (e :: es) [] pos) (tCallP G p sp t) := by
  obtain ⟨f, fd, ps, F, hm, kp, b⟩ := c.ex
  exact pe_callP F (hr.mono hk) hot hp hg hm kp b ha hdb he hpl
end
/-- zip of two lists, while an exception is handled -/
def iZipH (K : PySem.W.Frag) (ta : TA) : TI := fun σ H R => ta σ H fun vs H1 => ∃ a b xs ys, vs = [.ref a, .ref b] ∧ SqL K H1 a xs ∧ SqL K H1 b ys ∧ R (ItZ K (.lst a) (.lst b)) H1
theorem pi_zipHK {X : Cx} (K : PySem.W.Frag) (hK : X.K = K) {e e2 : Expr} {ta : TA} {p pos tpos : Pos} {elts : List Expr} {kk : Nat} (hg : Gl X "zip") (hm : X.mg "zip" = none) (ha : PA X [e, e2] ta)
    (hs : starEach [e, e2] X.env = (false, eval e X.env) :: starEach [e2] X.env := by rfl) (hpl : (backTo pos (starEach [e2] X.env)).any (·.1) = false := by rfl) :
    L2H.PIH X (.Tuple elts kk tpos) (.Call (.Name "zip" p) [e, e2] [] pos) (iZipH K ta) := by subst hK; exact pi_zipH hg hm ha hs hpl
theorem ei_zipH {K : PySem.W.Frag} {σ : L2.St} {H : Hp} {tl : TA} {ds es : List PD} (h : EvS K tl σ H [.list ds, .list es]) : EvI K (iZipH K tl) σ H (zipD ds es) := fun H1 e R k => h H1 e _ fun vs H2 e2 hv => by
  cases hv with
  | cons h1 h2 =>
    cases h2 with
    | cons h2 h3 =>
      cases h3
      cases h1 with
      | @lst a xs _ hx ha =>
        cases h2 with
        | @lst b ys _ hy hb => exact ⟨a, b, xs, ys, rfl, hx, hy, k _ H2 _ e2 (itd_zip (.lst a) (.lst b) ds es) ⟨⟨xs, hx, ha⟩, ⟨ys, hy, hb⟩⟩⟩
end Tlg
namespace Tlg
open PySem PySem.Spec PyProof.Rows L2
open Evl (Ex EvT EvO ex_l ex_t)
def topS (i : Nat) : Stmt := PySem.Challenge.pw_turnedlogs_k18_whole_rules_for_sizes.main.body.getD i (.Pass ⟨0, 0, 0, 0⟩)
/-! ### what the top has left -/
structure Txt (K : PySem.W.Frag) (mg : Str → Option Value) (aF : Addr) : Prop where
  b_isinstance : mg "isinstance" = none
  b_len : mg "len" = none
  b_all : mg "all" = none
  b_sum : mg "sum" = none
  b_int : mg "int" = none
  b_bool : mg "bool" = none
  b_str : mg "str" = none
  b_list : mg "list" = none
  b_tuple : mg "tuple" = none
  b_range : mg "range" = none
  b_zip : mg "zip" = none
  b_enumerate : mg "enumerate" = none
  b_ValueError : mg "ValueError" = none
  c_MOST_SIZE : ∃ u, mg "MOST_SIZE" = some u ∧ RelV (.int 3) u
  c_MOST_KEEP : ∃ u, mg "MOST_KEEP" = some u ∧ RelV (.int 3) u
  c_MOST_PAGES : ∃ u, mg "MOST_PAGES" = some u ∧ RelV (.int 12) u
  c_MOST_FACTOR : ∃ u, mg "MOST_FACTOR" = some u ∧ RelV (.int 3) u
  c_MOST_EVENTS : ∃ u, mg "MOST_EVENTS" = some u ∧ RelV (.int 60) u
  c_EVENTS : ∃ u, mg "EVENTS" = some u ∧ RelV (.str "-ab") u
  c_FIRST : ∃ u, mg "FIRST" = some u ∧ RelV (.ref aF) u
  tF : ∀ H, SqT K H aF [.int 0]
structure DefK (K : PySem.W.Frag) (mg : Str → Option Value) (x : Str) (st : Stmt) (ps : List Str) : Prop where
  ex : ∃ (f : Addr) (fd : FuncData), L2.Fun K x x st f fd ∧ mg x = some (.ref f) ∧ Binds K fd ps []
section
variable {P : Program} {w : World} {K : PySem.W.Frag} {mg : Str → Option Value} {base : Heap} {aF : Addr}
theorem cal_mk {x : Str} {st : Stmt} {N ps : List Str} {k : Nat} {sp : Sp} (F : DefK K mg x st ps) (S : FnScope N ps (defScope st)) (len : ∀ vs H Q E, sp vs H Q E → vs.length = ps.length)
    (hbody : ∀ (f : Addr) (cdv : Value) (A : Around) (outer : List Env) (s : Shared) (H : Hp) (vs : List V) (Q : VK) (E : XK), Room k (A.deeper (envOfC x (defScope st) s.heap.objs.size f cdv)) → sp vs H Q E →
      ∃ t, PSs (cxOf L2.CX0 P w K mg base N x (defScope st) f cdv A outer s H E).nox (defBody st) t ∧ t { nx := fun _ H' => Q .non H', rt := Q } (L2.start N vs) H) : C8.Cal P w K mg base (k + 1) x sp [] := by
  obtain ⟨f, fd, F, m, b⟩ := F.ex
  exact ⟨f, fd, ps, [], F.ok S len fun cdv A outer s H vs Q E hr h => hbody f cdv A outer s H vs Q E hr h, m, F.kp, b, .nil⟩
theorem hu_64 {A : Around} {k : Nat} (hr : Room k A) : A.units + 64 < cLine := by have := hr.un; omega
theorem hu_65 {A : Around} {k : Nat} (hr : Room k A) : A.units + 65 < cLine := by have := hr.un; omega
/-! ### the data -/
def optD : Option Int → PD
  | none => .none
  | some p => .int p
def ruleD (r : Rule) : PD := .tuple [.int r.size, .bool r.early, .bool r.daily, .bool r.empty, .int r.keep, optD r.pages, .int r.factor]
def szD (l : List Int) : PD := .tuple (l.map .int)
def evS : Evt → Str
  | .d => "-"
  | .a => "a"
  | .b => "b"
def evD (e : Evt) : PD := .str (evS e)
theorem len2 {H : Hp} {vs : List V} {d1 d2 : PD} (h : DpAll K H vs [d1, d2]) : ∃ v1 v2, vs = [v1, v2] ∧ Dp K H v1 d1 ∧ Dp K H v2 d2 := by
  cases h with
  | cons h1 h => cases h with
    | cons h2 h => cases h; exact ⟨_, _, rfl, h1, h2⟩
theorem len1 {H : Hp} {vs : List V} {d1 : PD} (h : DpAll K H vs [d1]) : ∃ v1, vs = [v1] ∧ Dp K H v1 d1 := by
  cases h with
  | cons h1 h => cases h; exact ⟨_, rfl, h1⟩
theorem len3 {H : Hp} {vs : List V} {d1 d2 d3 : PD} (h : DpAll K H vs [d1, d2, d3]) : ∃ v1 v2 v3, vs = [v1, v2, v3] ∧ Dp K H v1 d1 ∧ Dp K H v2 d2 ∧ Dp K H v3 d3 := by
  cases h with
  | cons h1 h => cases h with
    | cons h2 h => cases h with
      | cons h3 h => cases h; exact ⟨_, _, _, rfl, h1, h2, h3⟩
theorem len0 {H : Hp} {vs : List V} (h : DpAll K H vs []) : vs = [] := by cases h; rfl
/-! ### is_from -/
/-! is_from: 0 value, 1 low, 2 high -/
abbrev s_is_from : Stmt := topS 21
theorem sc_is_from : FnScope ["value", "low", "high"] ["value", "low", "high"] (defScope s_is_from) := by
  exact ⟨rfl, rfl, rfl, by decide +kernel, rfl, by decide +kernel, by decide +kernel⟩

def isFrom (d : PD) (lo hi : Int) : Bool := match d with
  | .int i => decide (lo ≤ i) && decide (i ≤ hi)
  | _ => false
def R_is_from (ds : List PD) (d : PD) : Prop := ∃ x lo hi, ds = [x, .int lo, .int hi] ∧ d = .bool (isFrom x lo hi)
theorem cal_is_from (T : Txt K mg aF) (F : DefK K mg "is_from" s_is_from ["value", "low", "high"]) : C8.Cal P w K mg base 1 "is_from" (PF K R_is_from) [] := by
  refine cal_mk F sc_is_from (PF.len fun ds d ⟨_, _, _, e, _⟩ => by rw [e]; rfl) fun f cdv A outer s H vs Q E hr h => ?_
  have nd := sc_is_from.nd
  obtain ⟨ds, d, hv, ⟨x, lo, hi, rfl, rfl⟩, q⟩ := h
  obtain ⟨v1, v2, v3, rfl, h1, h2, h3⟩ := len3 hv
  refine ⟨_, ((pss_one (ps_ret (pe_and (pe_callB (isi_K K rfl) (by rfl) T.b_isinstance bb_isinstance (pa_cons (pv 0) (pa_cons (pe_bltn (v := .ty "int") (by rfl) T.b_int bb_int rfl) pa_nil))) (pe_and (pe_not (pe_callB (isi_K K rfl) (by rfl) T.b_isinstance bb_isinstance (pa_cons (pv 0) (pa_cons (pe_bltn (v := .ty "bool") (by rfl) T.b_bool bb_bool rfl) pa_nil)))) (pe_one (pe_chain op_le op_le (pv 1) (pv 0) (pv 2)))))))), ?_⟩
  refine sd_ret ?_ q
  have V1 := ed_var (K := K) (H := H) (σ := L2.start ["value", "low", "high"] [v1, v2, v3]) (i := 0) rfl h1
  have fin : ∀ {b b2 b3 : Bool} {tx : TE}, PySem.W.kitOne K (.type (tyOf x)) (.type "int") = some b → PySem.W.kitOne K (.type (tyOf x)) (.type "bool") = some b2 → (b = true → (!b2) = true → EvD K tx (L2.start ["value", "low", "high"] [v1, v2, v3]) H (.bool b3)) →
      EvD K (tAndV (tCB (rIsi K) (tCons (tVar 0) (tCons (tC (.ty "int")) tNil))) (tAndV (tNotV (tCB (rIsi K) (tCons (tVar 0) (tCons (tC (.ty "bool")) tNil)))) tx)) (L2.start ["value", "low", "high"] [v1, v2, v3]) H (.bool (b && (!b2 && b3))) :=
    fun k1 k2 k3 => ed_andV (rc_isa k1 V1) fun e1 => ed_andV (ed_notV (rc_isa k2 V1)) fun e2 => k3 e1 e2
  cases x with
  | int i => exact (fin (kit_ty kb_int_int) (kit_ty kb_int_bool) fun _ _ => ed_chain (ed_var rfl h2) V1 (ed_var rfl h3)).is rfl
  | bool c => exact (fin (b3 := false) (kit_ty kb_bool_int) (kit_ty kb_bool_bool) fun _ e => by cases e).is rfl
  | none => exact (fin (b3 := false) (kit_ty kb_none_int) (kit_ty kb_none_bool) fun e _ => by cases e).is rfl
  | str c => exact (fin (b3 := false) (kit_ty kb_str_int) (kit_ty kb_str_bool) fun e _ => by cases e).is rfl
  | list c => exact (fin (b3 := false) (kit_ty kb_list_int) (kit_ty kb_list_bool) fun e _ => by cases e).is rfl
  | tuple c => exact (fin (b3 := false) (kit_ty kb_tuple_int) (kit_ty kb_tuple_bool) fun e _ => by cases e).is rfl
  | dict c => cases h1
/-! ### pages_of -/
/-! pages_of: 0 rule, 1 sizes, 2 packed, 3 size -/
abbrev s_pages_of : Stmt := topS 26
theorem sc_pages_of : FnScope ["rule", "sizes", "packed", "size"] ["rule", "sizes"] (defScope s_pages_of) := by
  exact ⟨rfl, rfl, rfl, by decide +kernel, rfl, by decide +kernel, by decide +kernel⟩

theorem cut_take {l : List PD} {j : Nat} : cutL l none (some (j : Int)) = l.take j := by
  unfold cutL
  rw [HT.sIx_none, HT.sIx_nat, List.drop_zero, Nat.sub_zero]
  by_cases h : j ≤ l.length
  · rw [Nat.min_eq_left h]
  · rw [Nat.min_eq_right (by omega), List.take_length, List.take_of_length_le (by omega)]
theorem cut_drop {l : List PD} {j : Nat} : cutL l (some (j : Int)) none = l.drop j := by
  unfold cutL
  rw [HT.sIx_none, HT.sIx_nat]
  by_cases h : j ≤ l.length
  · rw [Nat.min_eq_left h]
    exact List.take_of_length_le (by rw [List.length_drop]; omega)
  · rw [Nat.min_eq_right (by omega), Nat.sub_self, List.take_zero, List.drop_of_length_le (by omega)]
theorem cut_last {l : List PD} (h : l ≠ []) : cutL l none (some (-1)) = l.dropLast := by
  have h0 : 0 < l.length := List.length_pos_iff.mpr h
  unfold cutL
  rw [HT.sIx_none, List.drop_zero, Nat.sub_zero]
  have e : HT.sIx l.length l.length (some (-1)) = l.length - 1 := by
    show (if (-1 : Int) < 0 then (-1 + (l.length : Int)).toNat else min (-1 : Int).toNat l.length) = l.length - 1
    rw [if_pos (by decide)]
    omega
  rw [e, List.dropLast_eq_take]
theorem cut_take2 {l : List PD} : cutL l none (some 2) = l.take 2 := cut_take (j := 2)
theorem cut_drop2 {l : List PD} : cutL l (some 2) none = l.drop 2 := cut_drop (j := 2)
/-- r[j], r in a slot -/
theorem ed_ixT {σ : L2.St} {H : Hp} {v : V} {ds : List PD} {d : PD} {i : Nat} {j : Int} (h : σ[i]? = some (some v)) (hd : Dp K H v (.tuple ds)) (hj : atI ds j = some d) : EvD K (tOp (rIxT K) (tVar i) (tC (.int j))) σ H d := ed_op (ed_var h hd) ed_int (rd_ixT hj)
def onInt (g : Int → PD) : PD → PD
  | .int i => g i
  | x => x
theorem map_onInt {g : Int → PD} {l : List Int} : (l.map PyData.int).map (onInt g) = l.map g := by rw [List.map_map]; rfl
def R_pages_of (ds : List PD) (d : PD) : Prop := ∃ r l, Rule.Ok r ∧ l.length ≤ 1000 ∧ ds = [ruleD r, szD l] ∧ d = .int (pagesOf r l)
theorem cal_pages_of (T : Txt K mg aF) (F : DefK K mg "pages_of" s_pages_of ["rule", "sizes"]) : C8.Cal P w K mg base 1 "pages_of" (PF K R_pages_of) [] := by
  refine cal_mk F sc_pages_of (PF.len fun ds d ⟨_, _, _, _, e, _⟩ => by rw [e]; rfl) fun f cdv A outer s H vs Q E hr h => ?_
  have nd := sc_pages_of.nd
  obtain ⟨ds, d, hv, ⟨r, l, ok, hl, rfl, rfl⟩, q⟩ := h
  obtain ⟨v1, v2, rfl, h1, h2⟩ := len2 hv
  refine ⟨_, ((pss_cons (ps_setLc (i := 2) (own := [("size", 3)]) rfl nd rfl rfl (sw_true rfl rfl rfl (by decide +kernel)) (pi_tupK K rfl (pe_slice (sl_tupK K rfl) (pv 1) (po_some pe_int) po_none)) (blkOk_by (own := [("size", 3)]) (by kernel_rfl)) (fun _ _ _ _ _ => (pg_name (i := 3) nd rfl (Or.inl rfl))) (fun _ _ _ _ _ => pts_nil) (fun _ _ _ _ _ => (pe_op op_fdiv (pe_op op_sub (pe_op op_add (pv 3) (pe_ix (ix_tupK K rfl) (pv 0) pe_int (fun _ _ => rfl))) pe_int) (pe_ix (ix_tupK K rfl) (pv 0) pe_int (fun _ _ => rfl))))) 
    (pss_one (ps_ret (pe_op op_add (pe_callB (cr_sumK K rfl rfl) (by rfl) T.b_sum bb_sum (pa_cons (pe_slice (sl_tupK K rfl) (pv 1) po_none (po_some pe_int)) pa_nil)) (pe_callB (cr_sumK K rfl rfl) (by rfl) T.b_sum bb_sum (pa_cons (pv 2) pa_nil))))))), ?_⟩
  have f1 := ok.f1
  have f3 := ok.f3
  refine sq_set (ed_lcM (onInt fun i => .int ((i + r.factor - 1) / r.factor)) (ei_tup (ed_slT (ed_var (i := 1) rfl h2) eo_c eo_none)) ?_ (fun _ => rfl) ?_ ?_) fun v H1 e1 hp => ?_
  · rw [cut_drop2, List.length_drop, List.length_map]
    omega
  · intro d hd
    rw [cut_drop2, ← List.map_drop] at hd
    obtain ⟨i, _, rfl⟩ := List.mem_map.mp hd
    rfl
  · intro d hd x H1 e hx
    rw [cut_drop2, ← List.map_drop] at hd
    obtain ⟨i, _, rfl⟩ := List.mem_map.mp hd
    have g := ed_ixT (K := K) (σ := (wipe (L2.start ["rule", "sizes", "packed", "size"] [v1, v2]) [3]).set 3 (some x)) (H := H1) (j := 6) (i := 0) (d := .int r.factor) rfl (Dpm h1 e) rfl
    exact ed_op (ed_op (ed_op (ed_var (i := 3) rfl hx) g rd_I0) ed_int rd_I0) g (rd_I ⟨by omega, by omega⟩)
  rw [cut_drop2, ← List.map_drop, map_onInt] at hp
  refine sd_ret ?_ fun v H2 e2 hv => q v H2 (e1.trans e2) hv
  have hp' : Dp K H1 v (.list (((l.drop 2).map fun s => (s + r.factor - 1) / r.factor).map PyData.int)) := by
    rw [List.map_map]
    exact hp
  refine ed_op (ed_cb (es_cons ((ed_slT (ed_var (i := 1) rfl (Dpm h2 e1)) eo_none eo_c).is (f := .tuple ((l.take 2).map PyData.int)) ?_) es_nil) rc_sumT) (ed_cb (es_cons (ed_var (i := 2) rfl hp') es_nil) rc_sumL) rd_I0
  rw [cut_take2, ← List.map_take]
/-! ### turned -/
/-! turned: 0 rule, 1 sizes -/
abbrev s_turned : Stmt := topS 27
theorem sc_turned : FnScope ["rule", "sizes"] ["rule", "sizes"] (defScope s_turned) := by
  exact ⟨rfl, rfl, rfl, by decide +kernel, rfl, by decide +kernel, by decide +kernel⟩

def R_turned (ds : List PD) (d : PD) : Prop := ∃ r l, Rule.Ok r ∧ l.length ≤ 1000 ∧ ds = [ruleD r, szD l] ∧ d = szD (turned r l)
theorem cal_turned (T : Txt K mg aF) (F : DefK K mg "turned" s_turned ["rule", "sizes"]) : C8.Cal P w K mg base 1 "turned" (PF K R_turned) [] := by
  refine cal_mk F sc_turned (PF.len fun ds d ⟨_, _, _, _, e, _⟩ => by rw [e]; rfl) fun f cdv A outer s H vs Q E hr h => ?_
  have nd := sc_turned.nd
  obtain ⟨ds, d, hv, ⟨r, l, ok, hl, rfl, rfl⟩, q⟩ := h
  obtain ⟨v1, v2, rfl, h1, h2⟩ := len2 hv
  refine ⟨_, ((pss_one (ps_ret (pe_slice (sl_tupK K rfl) (pe_op (op_catAK K rfl) (pe_tup (pa_cons pe_int pa_nil)) (pv 1)) po_none (po_some (pe_op op_add (pe_ix (ix_tupK K rfl) (pv 0) pe_int (fun _ _ => rfl)) pe_int)))))), ?_⟩
  have k0 := ok.k0
  refine sd_ret ((ed_slT (ed_op (ed_tup (es_cons ed_int es_nil) (by decide)) (ed_var (i := 1) rfl h2) (rd_catA (by rw [List.length_map, List.length_singleton]; omega))) eo_none (eo_some (ed_op (ed_ixT (i := 0) (d := .int r.keep) rfl h1 rfl) ed_int rd_I0))).is ?_) q
  have e : r.keep + 1 = (((r.keep + 1).toNat : Nat) : Int) := by omega
  rw [e, cut_take]
  have e' : (((r.keep + 1).toNat : Int)).toNat = (r.keep + 1).toNat := Int.toNat_natCast _
  show PyData.tuple ((PyData.int 0 :: l.map PyData.int).take (r.keep + 1).toNat) = .tuple (((0 :: l).take (r.keep + 1).toNat).map PyData.int)
  rw [List.map_take]
  rfl
/-! ### within -/
/-! within: 0 rule, 1 sizes -/
abbrev s_within : Stmt := topS 28
theorem sc_within : FnScope ["rule", "sizes"] ["rule", "sizes"] (defScope s_within) := by
  exact ⟨rfl, rfl, rfl, by decide +kernel, rfl, by decide +kernel, by decide +kernel⟩

def R_within (ds : List PD) (d : PD) : Prop := ∃ r l, Rule.Ok r ∧ l ≠ [] ∧ l.length ≤ 1000 ∧ ds = [ruleD r, szD l] ∧ d = szD (within r l)
theorem cal_within (T : Txt K mg aF) (F : DefK K mg "within" s_within ["rule", "sizes"]) (C_pages_of : C8.Cal P w K mg base 1 "pages_of" (PF K R_pages_of) []) : C8.Cal P w K mg base 2 "within" (PF K R_within) [] := by
  refine cal_mk F sc_within (PF.len fun ds d ⟨_, _, _, _, _, e, _⟩ => by rw [e]; rfl) fun f cdv A outer s H vs Q E hr h => ?_
  have nd := sc_within.nd
  have hr1 := hr
  obtain ⟨ds, d, hv, ⟨r, l, ok, hne, hl, rfl, rfl⟩, q⟩ := h
  obtain ⟨v1, v2, rfl, h1, h2⟩ := len2 hv
  refine ⟨_, ((pss_cons (ps_while PassesOwn.never (PW.pt (pw_and (pt_cmp (pc_notN (pe_ix (ix_tupK K rfl) (pv 0) pe_int (fun _ _ => rfl)))) (pw_and (pt_cmpR op_gt (pe_callB (call_lenK K rfl) (by rfl) T.b_len bb_len (pa_cons (pv 1) pa_nil)) pe_int (nomark _)) (pw_and1 (pt_cmpR op_gt (C8.pe_c C_pages_of hr1 (by decide) (by rfl) (pa_cons (pv 0) (pa_cons (pv 1) pa_nil))) (pe_ix (ix_tupK K rfl) (pv 0) pe_int (fun _ _ => rfl)) (nomark _)))))) 
      (pss_one (ps_set (i := 1) nd rfl (Or.inl rfl) (pe_slice (sl_tupK K rfl) (pv 1) po_none (po_some (pe_un un_neg pe_int)))))) 
    (pss_one (ps_ret (pv 1))))), ?_⟩
  refine sq_while (fun m σ' H' => ∃ l' v', σ' = [some v1, some v'] ∧ Dp K H' v' (szD l') ∧ Ex H H' ∧ l'.length = m ∧ l' ≠ [] ∧ l'.length ≤ 1000 ∧ within r l' = within r l) l.length ⟨l, v2, rfl, h2, Ex.refl H, rfl, hne, hl, rfl⟩ ?_
  rintro m σ' H' ⟨l', v', rfl, hv', e0, rfl, hne', hl', hw⟩
  have h1' := Dpm h1 e0
  have fin : over r l' = false → ∀ H1, Ex H' H1 → tRet (tVar 1) { nx := fun _ H' => Q .non H', rt := Q } [some v1, some v'] H1 := fun ho H1 e1 =>
    sd_ret (ed_var (i := 1) rfl (Dpm hv' e1)) fun v H2 e2 hv2 => q v H2 ((e0.trans e1).trans e2) (by rw [← hw, within_stop ho]; exact hv2)
  have go : over r l' = true → ∀ H1, Ex H' H1 → ∃ N : L2.St → Hp → Prop, (∀ σ2 H2, N σ2 H2 → ∃ m', m' < l'.length ∧ ∃ l'' v'', σ2 = [some v1, some v''] ∧ Dp K H2 v'' (szD l'') ∧ Ex H H2 ∧ l''.length = m' ∧ l'' ≠ [] ∧ l''.length ≤ 1000 ∧ within r l'' = within r l) ∧
      tAsg (tSl (rSlA K) (tVar 1) tNoPart (tPart (tUn (rU fun i => V.int (-i)) (tC (.int 1))))) (gName 1) { nx := N, ct := N, bk := tRet (tVar 1) { nx := fun _ H' => Q .non H', rt := Q }, rt := Q } [some v1, some v'] H1 := fun ho H1 e1 => by
    have hlen := over_len ho
    refine ⟨fun σ2 H2 => ∃ v'', σ2 = [some v1, some v''] ∧ Dp K H2 v'' (szD l'.dropLast) ∧ Ex H H2, fun σ2 H2 ⟨v'', a, b, c⟩ => ⟨l'.length - 1, by omega, l'.dropLast, v'', a, b, c, by rw [List.length_dropLast], fun z => ?_, by rw [List.length_dropLast]; omega, by rw [← within_step ho]; exact hw⟩, ?_⟩
    · have := congrArg List.length z
      rw [List.length_dropLast] at this
      simp at this
      omega
    · refine sd_set ((ed_slT (ed_var (i := 1) rfl (Dpm hv' e1)) eo_none (eo_some (K := K) (ed_un ed_int))).is ?_) fun v H2 e2 hv2 => ⟨v, rfl, hv2, (e0.trans e1).trans e2⟩
      show PyData.tuple (cutL (l'.map PyData.int) none (some (-1))) = .tuple (l'.dropLast.map PyData.int)
      rw [cut_last (fun z => hne' (List.map_eq_nil_iff.mp z)), List.map_dropLast]
  have hp : EvD K (tOp (rIxT K) (tVar 0) (tC (.int 5))) [some v1, some v'] H' (optD r.pages) := ed_ixT (i := 0) rfl h1' rfl
  cases hpg : r.pages with
  | none =>
    have ho : over r l' = false := by unfold over; rw [hpg]
    rw [hpg] at hp
    exact ⟨false, et_and (a := false) (b := false) (et_B (ed_notN hp)) (fun z => by cases z), fun z => (by cases z), fun _ => fin ho⟩
  | some p =>
    rw [hpg] at hp
    have ho : over r l' = (decide (1 < l'.length) && decide (p < pagesOf r l')) := by unfold over; rw [hpg]
    refine ⟨over r l', ?_, go, fin⟩
    rw [ho]
    have t1 : EvT (tTest (tOp (rI0 fun i j => .bl (decide (j < i))) (tCB (rLenS K) (tCons (tVar 1) tNil)) (tC (.int 1)))) [some v1, some v'] H' (decide (1 < l'.length)) := by
      have h := et_test (ed_op (ed_cb (es_cons (ed_var (K := K) (σ := [some v1, some v']) (i := 1) rfl hv') es_nil) rc_lenT) (ed_int (i := 1)) (rd_B0 (g := fun i j => decide (j < i))))
      rw [List.length_map] at h
      have e : decide ((1 : Int) < (l'.length : Int)) = decide (1 < l'.length) := by
        rw [decide_eq_decide]
        omega
      rw [← e]
      exact h
    exact (et_and (a := true) (et_B (ed_notN hp)) fun _ => et_and t1 fun _ => et_test (ed_op (ed_call (es_cons (ed_var (i := 0) rfl h1') (es_cons (ed_var (i := 1) rfl hv') es_nil)) ⟨r, l', ok, hl', rfl, rfl⟩) hp (rd_B0 (g := fun i j => decide (j < i)))))
/-! ### moved -/
/-! moved: 0 rule, 1 sizes, 2 event, 3 size, 4 early, 5 daily, 6 empty, 7 lines -/
abbrev s_moved : Stmt := topS 29
theorem sc_moved : FnScope ["rule", "sizes", "event", "size", "early", "daily", "empty", "lines"] ["rule", "sizes", "event"] (defScope s_moved) := by
  exact ⟨rfl, rfl, rfl, by decide +kernel, rfl, by decide +kernel, by decide +kernel⟩

theorem at_hd {l : List Int} (h : l ≠ []) : atI (l.map PyData.int) 0 = some (.int (hd l)) := by
  cases l with
  | nil => exact absurd rfl h
  | cons x xs =>
    show ((ixN (xs.map PyData.int).length.succ 0).bind fun j => (PyData.int x :: xs.map PyData.int)[j]?) = some (.int x)
    have e : ixN (xs.map PyData.int).length.succ 0 = some 0 := Evl.ixN_nat (j := 0) (Nat.succ_pos _)
    rw [e]
    rfl
def R_moved (ds : List PD) (d : PD) : Prop := ∃ r l e, Rule.Ok r ∧ Good r l ∧ ds = [ruleD r, szD l, evD e] ∧ d = szD (moved r l e)
theorem Good.len4 {r : Rule} {l : List Int} (o : r.Ok) (g : Good r l) : l.length ≤ 4 := by
  have := g.len
  have := o.k3
  omega
theorem turned_len4 {r : Rule} (o : r.Ok) (l : List Int) : (turned r l).length ≤ 4 := by
  have := turned_len o l
  have := o.k3
  omega
theorem turned_ne {r : Rule} (o : r.Ok) (l : List Int) : turned r l ≠ [] := by rw [turned_eq o]; simp
theorem cal_moved (T : Txt K mg aF) (F : DefK K mg "moved" s_moved ["rule", "sizes", "event"]) (C_turned : C8.Cal P w K mg base 1 "turned" (PF K R_turned) []) (C_within : C8.Cal P w K mg base 2 "within" (PF K R_within) []) : C8.Cal P w K mg base 3 "moved" (PF K R_moved) [] := by
  refine cal_mk F sc_moved (PF.len fun ds d ⟨_, _, _, _, _, e, _⟩ => by rw [e]; rfl) fun f cdv A outer s H vs Q E hr h => ?_
  have nd := sc_moved.nd
  have hr1 := hr
  obtain ⟨ds, d, hv, ⟨r, l, e, ok, g, rfl, rfl⟩, q⟩ := h
  obtain ⟨v1, v2, v3, rfl, h1, h2, h3⟩ := len3 hv
  refine ⟨_, ((pss_cons (ps_asg (pe_slice (sl_tupK K rfl) (pv 0) po_none (po_some pe_int)) (pg_tupK K 4 rfl rfl (pgs_cons (pg_name (i := 3) nd rfl (Or.inl rfl)) (pgs_cons (pg_name (i := 4) nd rfl (Or.inl rfl)) (pgs_cons (pg_name (i := 5) nd rfl (Or.inl rfl)) (pgs_cons (pg_name (i := 6) nd rfl (Or.inl rfl)) pgs_nil)))))) 
    (pss_cons (ps_if (pt_cmpR op_eq (pv 2) pe_str (nomark _)) 
      (pss_cons (ps_if (PW.pt (pw_and (pt_val (pv 5)) (pw_and1 (PW.pt (pw_or (pt_val (pv 6)) (pw_or1 (pt_cmpR op_gt (pe_ix (ix_tupK K rfl) (pv 1) pe_int (fun _ _ => rfl)) pe_int (nomark _)))))))) 
        (pss_one (ps_set (i := 1) nd rfl (Or.inl rfl) (C8.pe_c C_turned hr1 (by decide) (by rfl) (pa_cons (pv 0) (pa_cons (pv 1) pa_nil))))) pss_nil) 
      (pss_one (ps_ret (C8.pe_c C_within hr1 (by decide) (by rfl) (pa_cons (pv 0) (pa_cons (pv 1) pa_nil)))))) pss_nil) 
    (pss_cons (ps_set (i := 7) nd rfl (Or.inl rfl) (pe_ifExp (pt_cmpR op_eq (pv 2) pe_str (nomark _)) pe_int pe_int)) 
    (pss_cons (ps_if (PW.pt (pw_and (pt_val (pv 4)) (pw_and (pt_cmpR op_gt (pe_ix (ix_tupK K rfl) (pv 1) pe_int (fun _ _ => rfl)) pe_int (nomark _)) (pw_and1 (pt_cmpR op_gt (pe_op op_add (pe_ix (ix_tupK K rfl) (pv 1) pe_int (fun _ _ => rfl)) (pv 7)) (pv 3) (nomark _)))))) 
      (pss_one (ps_set (i := 1) nd rfl (Or.inl rfl) (C8.pe_c C_turned hr1 (by decide) (by rfl) (pa_cons (pv 0) (pa_cons (pv 1) pa_nil))))) pss_nil) 
    (pss_cons (ps_set (i := 1) nd rfl (Or.inl rfl) (pe_op (op_catAK K rfl) (pe_tup (pa_cons (pe_op op_add (pe_ix (ix_tupK K rfl) (pv 1) pe_int (fun _ _ => rfl)) (pv 7)) pa_nil)) (pe_slice (sl_tupK K rfl) (pv 1) (po_some pe_int) po_none))) 
    (pss_cons (ps_if (PW.pt (pw_and (pt_not (pt_val (pv 4))) (pw_and1 (pt_cmpR op_ge (pe_ix (ix_tupK K rfl) (pv 1) pe_int (fun _ _ => rfl)) (pv 3) (nomark _))))) 
      (pss_one (ps_set (i := 1) nd rfl (Or.inl rfl) (C8.pe_c C_turned hr1 (by decide) (by rfl) (pa_cons (pv 0) (pa_cons (pv 1) pa_nil))))) pss_nil) 
    (pss_one (ps_ret (C8.pe_c C_within hr1 (by decide) (by rfl) (pa_cons (pv 0) (pa_cons (pv 1) pa_nil)))))))))))), ?_⟩
  have ne := g.ne
  have l4 := g.len4 ok
  refine sq_tup4 (d1 := .int r.size) (d2 := .bool r.early) (d3 := .bool r.daily) (d4 := .bool r.empty) ((ed_slT (ed_var (i := 0) rfl h1) eo_none eo_c).is (by rw [show (4 : Int) = ((4 : Nat) : Int) from rfl, cut_take]; rfl)) fun x1 x2 x3 x4 H1 e1 a1 a2 a3 a4 => ?_
  replace h1 := Dpm h1 e1
  replace h2 := Dpm h2 e1
  replace h3 := Dpm h3 e1
  refine sq_ifRet (b := decide (evS e = "-")) (et_test (ed_op (ed_var (i := 2) rfl h3) ed_str rd_eqS)) (fun he H2 e2 => ?_) fun he H2 e2 => ?_
  · -- the end of a day
    have hd' : e = .d := by cases e <;> first | rfl | (exfalso; revert he; decide)
    subst hd'
    replace h1 := Dpm h1 e2
    replace h2 := Dpm h2 e2
    refine sq_ifSet (b := r.daily && (r.empty || decide (0 < hd l))) (v0 := v2) (et_and (et_B (ed_var (i := 5) rfl (Dpm a3 e2))) fun _ => Evl.et_or (et_B (ed_var (i := 6) rfl (Dpm a4 e2))) fun _ => et_test (ed_op (ed_ixT (i := 1) rfl h2 (at_hd ne)) ed_int (rd_B0 (g := fun i j => decide (j < i))))) rfl h2
      (fun _ H3 e3 => ed_call (es_cons (ed_var (i := 0) rfl (Dpm h1 e3)) (es_cons (ed_var (i := 1) rfl (Dpm h2 e3)) es_nil)) ⟨r, l, ok, by omega, rfl, rfl⟩) fun v H3 e3 hv => ?_
    have hv' := dp_ite (f := szD) hv
    refine sd_ret (ed_call (es_cons (ed_var (i := 0) rfl (Dpm h1 e3)) (es_cons (ed_var (i := 1) rfl hv') es_nil)) ⟨r, _, ok, ?_, ?_, rfl, rfl⟩) fun z H4 e4 hz => q z H4 (((e1.trans e2).trans e3).trans e4) hz
    · split
      · exact turned_ne ok l
      · exact ne
    · split
      · have := turned_len4 ok l; omega
      · omega
  · -- a write
    have hd' : e ≠ .d := fun z => by subst z; revert he; decide
    rw [moved_w r l e hd'] at q
    replace h1 := Dpm h1 e2
    replace h2 := Dpm h2 e2
    replace a1 := Dpm a1 e2
    replace a2 := Dpm a2 e2
    refine sq_set (K := K) (d := .int e.more) ((ed_if2 (et_test (ed_op (ed_var (i := 2) rfl (Dpm h3 e2)) ed_str rd_eqS)) (ed_int (i := 1)) (ed_int (i := 2))).is ?_) fun v H3 e3 hn => ?_
    · cases e with
      | d => exact absurd rfl hd'
      | a => exact if_pos (by decide)
      | b => exact if_neg (by decide)
    generalize e.more = n at q hn
    replace h1 := Dpm h1 e3
    replace h2 := Dpm h2 e3
    replace a1 := Dpm a1 e3
    replace a2 := Dpm a2 e3
    refine sq_ifSet (b := r.early && (decide (0 < hd l) && decide (r.size < hd l + n))) (v0 := v2) (et_and (et_B (ed_var (i := 4) rfl a2)) fun _ => et_and (et_test (ed_op (ed_ixT (i := 1) rfl h2 (at_hd ne)) ed_int (rd_B0 (g := fun i j => decide (j < i))))) fun _ =>
        et_test (ed_op (ed_op (ed_ixT (i := 1) rfl h2 (at_hd ne)) (ed_var (i := 7) rfl hn) rd_I0) (ed_var (i := 3) rfl a1) (rd_B0 (g := fun i j => decide (j < i))))) rfl h2
      (fun _ H4 e4 => ed_call (es_cons (ed_var (i := 0) rfl (Dpm h1 e4)) (es_cons (ed_var (i := 1) rfl (Dpm h2 e4)) es_nil)) ⟨r, l, ok, by omega, rfl, rfl⟩) fun v H4 e4 hv => ?_
    have hv' := dp_ite (f := szD) hv
    have hl1 : ∀ l1, l1 = (if (r.early && (decide (0 < hd l) && decide (r.size < hd l + n))) = true then turned r l else l) → l1 ≠ [] ∧ l1.length ≤ 4 := fun l1 el => by
      rw [el]
      split
      · exact ⟨turned_ne ok l, turned_len4 ok l⟩
      · exact ⟨ne, l4⟩
    generalize hl1e : (if (r.early && (decide (0 < hd l) && decide (r.size < hd l + n))) = true then turned r l else l) = l1 at hv' hl1
    obtain ⟨ne1, len1'⟩ := hl1 l1 rfl
    have hw : wrote r l n = if (!r.early && decide (r.size ≤ hd ((hd l1 + n) :: l1.tail))) = true then turned r ((hd l1 + n) :: l1.tail) else (hd l1 + n) :: l1.tail := by
      unfold wrote
      rw [hl1e]
    replace h1 := Dpm h1 e4
    replace a1 := Dpm a1 e4
    replace a2 := Dpm a2 e4
    replace hn := Dpm hn e4
    refine sq_set (K := K) (d := szD ((hd l1 + n) :: l1.tail)) ((ed_op (ed_tup (es_cons (ed_op (ed_ixT (i := 1) rfl hv' (at_hd ne1)) (ed_var (i := 7) rfl hn) rd_I0) es_nil) (by simp)) (ed_slT (ed_var (i := 1) rfl hv') eo_c eo_none) (rd_catA ?_)).is ?_) fun v5 H5 e5 h5 => ?_
    · rw [show (1 : Int) = ((1 : Nat) : Int) from rfl, cut_drop, List.length_drop, List.length_map]
      show 1 + _ ≤ _
      omega
    · rw [show (1 : Int) = ((1 : Nat) : Int) from rfl, cut_drop, ← List.map_drop, List.drop_one]
      rfl
    replace h1 := Dpm h1 e5
    replace a1 := Dpm a1 e5
    replace a2 := Dpm a2 e5
    have len2' : ((hd l1 + n) :: l1.tail).length ≤ 4 := by
      have h0 : 0 < l1.length := List.length_pos_iff.mpr ne1
      rw [List.length_cons, List.length_tail]
      omega
    refine sq_ifSet (b := !r.early && decide (r.size ≤ hd ((hd l1 + n) :: l1.tail))) (v0 := v5) (et_and (Evl.et_not (et_B (ed_var (i := 4) rfl a2))) fun _ => et_test (ed_op (ed_ixT (i := 1) rfl h5 (at_hd (by simp))) (ed_var (i := 3) rfl a1) (rd_B0 (g := fun i j => decide (j ≤ i))))) rfl h5
      (fun _ H6 e6 => ed_call (es_cons (ed_var (i := 0) rfl (Dpm h1 e6)) (es_cons (ed_var (i := 1) rfl (Dpm h5 e6)) es_nil)) ⟨r, _, ok, by omega, rfl, rfl⟩) fun v6 H6 e6 hv6 => ?_
    have hv6' := dp_ite (f := szD) hv6
    refine sd_ret (ed_call (es_cons (ed_var (i := 0) rfl (Dpm h1 e6)) (es_cons (ed_var (i := 1) rfl hv6') es_nil)) ⟨r, _, ok, ?_, ?_, rfl, rfl⟩) fun z H7 e7 hz => q z H7 ((((((e1.trans e2).trans e3).trans e4).trans e5).trans e6).trans e7) (by rw [hw]; exact hz)
    · split
      · exact turned_ne ok _
      · simp
    · split
      · have := turned_len4 ok ((hd l1 + n) :: l1.tail); omega
      · omega
/-! ### walked -/
/-! walked: 0 rule, 1 sizes, 2 row, 3 found, 4 event -/
abbrev s_walked : Stmt := topS 30
theorem sc_walked : FnScope ["rule", "sizes", "row", "found", "event"] ["rule", "sizes", "row"] (defScope s_walked) := by
  exact ⟨rfl, rfl, rfl, by decide +kernel, rfl, by decide +kernel, by decide +kernel⟩

def Evt.cp : Evt → Nat
  | .d => 45
  | .a => 97
  | .b => 98
def rowS (es : List Evt) : Str := ⟨(es.map Evt.cp).toArray⟩
def rowD (es : List Evt) : PD := .str (rowS es)
theorem evS_cp (e : Evt) : evS e = ⟨#[e.cp]⟩ := by cases e <;> decide
theorem signs_row (es : List Evt) : signsD (rowS es) = es.map evD := by
  unfold signsD rowS
  show (es.map Evt.cp).toArray.toList.map _ = _
  rw [List.map_map]
  refine List.map_congr_left fun e _ => ?_
  show PyData.str ⟨#[e.cp]⟩ = .str (evS e)
  rw [evS_cp]
theorem walk_snoc (r : Rule) : ∀ (l : List Int) (es : List Evt) (e : Evt), walkFrom r l (es ++ [e]) = walkFrom r l es ++ [moved r (behindFrom r l es) e]
  | l, [], e => rfl
  | l, a :: es, e => by
    show moved r l a :: walkFrom r (moved r l a) (es ++ [e]) = moved r l a :: (walkFrom r (moved r l a) es ++ [_])
    rw [walk_snoc r _ es e]
    rfl
theorem behind_snoc (r : Rule) (l : List Int) (es : List Evt) (e : Evt) : behindFrom r l (es ++ [e]) = moved r (behindFrom r l es) e := by
  unfold behindFrom
  rw [List.foldl_append]
  rfl
theorem szD_tup (l : List Int) : tupOnly (szD l) = true := tupOnlyAll_map fun _ _ => rfl
theorem take_snoc {α : Type} {l : List α} {i : Nat} {x : α} (h : l[i]? = some x) : l.take (i + 1) = l.take i ++ [x] := by
  rw [List.take_add_one, h]
  rfl
def R_walked (ds : List PD) (d : PD) : Prop := ∃ r l es, Rule.Ok r ∧ Good r l ∧ es.length ≤ 1000 ∧ ds = [ruleD r, szD l, rowD es] ∧ d = .list ((walkFrom r l es).map szD)
theorem cal_walked (T : Txt K mg aF) (F : DefK K mg "walked" s_walked ["rule", "sizes", "row"]) (C_moved : C8.Cal P w K mg base 3 "moved" (PF K R_moved) []) : C8.Cal P w K mg base 4 "walked" (PF K R_walked) [] := by
  refine cal_mk F sc_walked (PF.len fun ds d ⟨_, _, _, _, _, _, e, _⟩ => by rw [e]; rfl) fun f cdv A outer s H vs Q E hr h => ?_
  have nd := sc_walked.nd
  have hr1 := hr
  obtain ⟨ds, d, hv, ⟨r, l, es, ok, g, hle, rfl, rfl⟩, q⟩ := h
  obtain ⟨v1, v2, v3, rfl, h1, h2, h3⟩ := len3 hv
  refine ⟨_, ((pss_cons (ps_set (i := 3) nd rfl (Or.inl rfl) (pe_lst pa_nil)) 
    (pss_cons (ps_for PassesOwn.never rfl (pi_str (pv 2)) (pg_name (i := 4) nd rfl (Or.inl rfl)) 
      (pss_cons (ps_set (i := 1) nd rfl (Or.inl rfl) (C8.pe_c C_moved hr1 (by decide) (by rfl) (pa_cons (pv 0) (pa_cons (pv 1) (pa_cons (pv 4) pa_nil))))) 
      (pss_one (ps_expr (pe_bm PySem.F.plainAttrs_list PySem.F.slot_list_append PySem.F.type_list_append mt_append (pv 3) (pa_cons (pv 1) pa_nil)))))) 
    (pss_one (ps_ret (pv 3)))))), ?_⟩
  refine sq_new (K := K) fun p hp hA => ?_
  refine sq_for0 (K := K) (Hb := H) (ds := es.map evD) (Ex.new hp) (by rw [← signs_row]; exact ei0_str (ed_var (i := 2) rfl h3))
    (fun i σ' H' => ∃ v x, σ' = [some v1, some v, some v3, some (.ref p), x] ∧ Ex H H' ∧ Dp K H' v (szD (behindFrom r l (es.take i))) ∧ Acc K p H' ((walkFrom r l (es.take i)).map szD))
    (fun H1 e1 => ⟨v2, none, rfl, (Ex.new hp).trans e1, Dpm h2 ((Ex.new hp).trans e1), hA.mono e1⟩) (fun i σ' H' ⟨_, _, _, e, _⟩ => e) ?_ ?_
  · rintro i d x σ' H' H1 hd ⟨v, y, rfl, e0, hv, hA⟩ e1 hx
    rw [List.getElem?_map] at hd
    cases he : es[i]? with
    | none => rw [he] at hd; cases hd
    | some e =>
      rw [he] at hd
      cases hd
      have hle2 : i < es.length := (List.getElem?_eq_some_iff.mp he).1
      have hw := walk_snoc r l (es.take i) e
      have hb := behind_snoc r l (es.take i) e
      rw [← take_snoc he] at hw hb
      show tSeq _ _ _ [some v1, some v, some v3, some (.ref p), some x] H1
      refine sq_set (K := K) (ed_call (es_cons (ed_var (i := 0) rfl (Dpm h1 (e0.trans e1))) (es_cons (ed_var (i := 1) rfl (Dpm hv e1)) (es_cons (ed_var (i := 4) rfl hx) es_nil))) ⟨r, _, e, ok, g.behindFrom ok (es.take i), rfl, rfl⟩) fun v' H2 e2 hv' => ?_
      refine sd_appA (K := K) (ed_var (i := 1) rfl hv') (i := 3) rfl ((hA.mono e1).mono e2) (tupOnlyAll_map fun _ _ => szD_tup _) (szD_tup _) (by rw [List.length_map, walk_length, List.length_take]; omega) fun H3 H4 o e3 xb eo hA' => ?_
      refine ⟨v', some x, rfl, ?_, ?_, ?_⟩
      · rw [eo]
        exact Evl.Ex.mut (((e0.trans e1).trans e2).trans e3) hp
      · rw [hb]
        exact dp_b xb _ _ (szD_tup _) (Dpm hv' e3)
      · rw [hw, List.map_append]
        exact hA'
  · rintro σ' H' ⟨v, y, rfl, e0, hv, hA⟩
    rw [List.length_map, List.take_length] at hA
    exact sd_ret (ed_var (i := 3) rfl hA.dp) fun z H1 e1 hz => q z H1 (e0.trans e1) hz
/-! ### behind -/
/-! behind: 0 rule, 1 row -/
abbrev s_behind : Stmt := topS 31
theorem sc_behind : FnScope ["rule", "row"] ["rule", "row"] (defScope s_behind) := by
  exact ⟨rfl, rfl, rfl, by decide +kernel, rfl, by decide +kernel, by decide +kernel⟩

theorem dp_first (T : Txt K mg aF) (H : Hp) : Dp K H (.ref aF) (szD [0]) := .tup (T.tF H) (dpa_of_ints (ns := [0]))
def R_behind (ds : List PD) (d : PD) : Prop := ∃ r es, Rule.Ok r ∧ es.length ≤ 1000 ∧ ds = [ruleD r, rowD es] ∧ d = szD (behind r es)
theorem ed_gc {x : Str} {d : PD} {v : V} {σ : L2.St} {H : Hp} (h : Dp K H v d) : EvD K (tC v) σ H d := ed_c h
theorem cal_behind (T : Txt K mg aF) (F : DefK K mg "behind" s_behind ["rule", "row"]) (C_walked : C8.Cal P w K mg base 4 "walked" (PF K R_walked) []) : C8.Cal P w K mg base 5 "behind" (PF K R_behind) [] := by
  refine cal_mk F sc_behind (PF.len fun ds d ⟨_, _, _, _, e, _⟩ => by rw [e]; rfl) fun f cdv A outer s H vs Q E hr h => ?_
  have nd := sc_behind.nd
  have hr1 := hr
  obtain ⟨ds, d, hv, ⟨r, es, ok, hle, rfl, rfl⟩, q⟩ := h
  obtain ⟨v1, v2, rfl, h1, h2⟩ := len2 hv
  refine ⟨_, ((pss_one (ps_ret (pe_ix (ix_listK K rfl) (pe_op (op_catSK K rfl) (pe_lst (pa_cons (C8.pe_gc (by rfl) T.c_FIRST) pa_nil)) (C8.pe_c C_walked hr1 (by decide) (by rfl) (pa_cons (pv 0) (pa_cons (C8.pe_gc (by rfl) T.c_FIRST) (pa_cons (pv 1) pa_nil))))) (pe_un un_neg pe_int) (fun _ _ => rfl))))), ?_⟩
  refine sd_ret (ed_op (ed_op (ed_lst (es_cons (ed_c (dp_first T H)) es_nil) (by simp)) (ed_call (es_cons (ed_var (i := 0) rfl h1) (es_cons (ed_c (dp_first T H)) (es_cons (ed_var (i := 1) rfl h2) es_nil))) ⟨r, [0], es, ok, Good.first ok, hle, rfl, rfl⟩) (rd_catS ?_)) (ed_un ed_int) (rd_ixL ?_)) q
  · rw [List.length_map, walk_length]
    show 1 + _ ≤ _
    omega
  · refine at_last ?_
    show (szD [0] :: (walkFrom r [0] es).map szD).getLast? = some (szD (behind r es))
    rw [← List.map_cons, List.getLast?_map, last_walk]
    rfl
structure Txt18 (K : PySem.W.Frag) (mg : Str → Option Value) (aF aS : Addr) : Prop extends Txt K mg aF where
  c_MOST_LINES : ∃ u, mg "MOST_LINES" = some u ∧ RelV (.int 4) u
  c_MOST_SEEN : ∃ u, mg "MOST_SEEN" = some u ∧ RelV (.int 6) u
  x_InvalidSeen : PySem.W.excIn K aS [.type "ValueError", .type "Exception", .type "BaseException", .type "object"] "ValueError.__new__" = true
  g_InvalidSeen : mg "InvalidSeen" = some (.ref aS)
  k_InvalidSeen : PySem.W.keepIn K (.ref aS) = true
  q_InvalidSeen : PySem.W.subIn K (.ref aS) (.type "BaseException") = some true
  t_InvalidSeen : PySem.W.typeIn K (.ref aS) = some (.type "type")
variable {aS : Addr}
/-! ### values_of -/
/-! values_of: 0 index, 1 low, 2 high -/
abbrev s_values_of : Stmt := topS 33
theorem sc_values_of : FnScope ["index", "low", "high"] ["index"] (defScope s_values_of) := by
  exact ⟨rfl, rfl, rfl, by decide +kernel, rfl, by decide +kernel, by decide +kernel⟩

def valsD : Nat → List PD
  | 0 => [.int 1, .int 2, .int 3]
  | 1 => [.bool false, .bool true]
  | 2 => [.bool false, .bool true]
  | 3 => [.bool false, .bool true]
  | 4 => [.int 0, .int 1, .int 2, .int 3]
  | 5 => [.none, .int 1, .int 2, .int 3, .int 4, .int 5, .int 6, .int 7, .int 8, .int 9, .int 10, .int 11, .int 12]
  | _ => [.int 1, .int 2, .int 3]
theorem at_of {l : List PD} {d : PD} {j : Nat} {i : Int} (hi : i = (j : Int)) (h : l[j]? = some d) : atI l i = some d := by rw [hi]; exact at_nat h
def R_values_of (ds : List PD) (d : PD) : Prop := ∃ i : Nat, i < 7 ∧ ds = [.int i] ∧ d = .list (valsD i)
theorem cal_values_of (T : Txt K mg aF) (F : DefK K mg "values_of" s_values_of ["index"]) : C8.Cal P w K mg base 1 "values_of" (PFF K R_values_of) [] := by
  refine cal_mk F sc_values_of (PFF.len fun ds d ⟨_, _, e, _⟩ => by rw [e]; rfl) fun f cdv A outer s H vs Q E hr h => ?_
  have nd := sc_values_of.nd
  obtain ⟨ds, d, hv, ⟨i, hi, rfl, rfl⟩, q⟩ := h
  obtain ⟨v1, rfl, h1⟩ := len1 hv
  refine ⟨_, ((pss_cons (ps_if (pt_cmpR (op_in_seqK K rfl) (pv 0) (pe_tup (pa_cons pe_int (pa_cons pe_int (pa_cons pe_int pa_nil)))) (by with_unfolding_all rfl)) 
      (pss_one (ps_ret (pe_lst (pa_cons pe_bl (pa_cons pe_bl pa_nil))))) pss_nil) 
    (pss_cons (ps_if (pt_cmpR op_eq (pv 0) pe_int (nomark _)) 
      (pss_one (ps_ret (pe_op (op_catSK K rfl) (pe_lst (pa_cons pe_non pa_nil)) (pe_listRg rfl (by rfl) T.b_list (prg_2 (by rfl) T.b_range pe_int (pe_op op_add (C8.pe_gc (by rfl) T.c_MOST_PAGES) pe_int)))))) pss_nil) 
    (pss_cons (ps_asg (pe_ix (ix_listK K rfl) (pe_lst (pa_cons (pe_tup (pa_cons pe_int (pa_cons (C8.pe_gc (by rfl) T.c_MOST_SIZE) pa_nil))) (pa_cons (pe_tup (pa_cons pe_int (pa_cons (C8.pe_gc (by rfl) T.c_MOST_KEEP) pa_nil))) (pa_cons (pe_tup (pa_cons pe_int (pa_cons (C8.pe_gc (by rfl) T.c_MOST_FACTOR) pa_nil))) pa_nil)))) (pe_bm PySem.F.plainAttrs_list PySem.F.slot_list_index PySem.F.type_list_index mt_index (pe_lst (pa_cons pe_int (pa_cons pe_int (pa_cons pe_int pa_nil)))) (pa_cons (pv 0) pa_nil)) (fun _ _ => rfl)) (pg_tupK K 2 rfl rfl (pgs_cons (pg_name (i := 1) nd rfl (Or.inl rfl)) (pgs_cons (pg_name (i := 2) nd rfl (Or.inl rfl)) pgs_nil)))) 
    (pss_one (ps_ret (pe_listRg rfl (by rfl) T.b_list (prg_2 (by rfl) T.b_range (pv 1) (pe_op op_add (pv 2) pe_int))))))))), ?_⟩
  have inT : EvT (tTest (tOp (rIn K false) (tVar 0) (tTup (tCons (tC (.int 1)) (tCons (tC (.int 2)) (tCons (tC (.int 3)) tNil)))))) [some v1, none, none] H (decide ((i : Int) ∈ ([1, 2, 3] : List Int))) :=
    et_test (ed_op (ed_var (i := 0) rfl h1) (ed_tup (ds := ([1, 2, 3] : List Int).map PyData.int) (es_cons ed_int (es_cons ed_int (es_cons ed_int es_nil))) (by simp)) rd_inI)
  refine sq_ifRet inT (fun hb H1 e1 => ?_) fun hb H1 e1 => ?_
  · refine sd_retF (K := K) (ef_lst (es_cons (ed_bl (b := false)) (es_cons (ed_bl (b := true)) es_nil)) (by simp)) fun p H2 e2 hp hd => q p H2 (e1.trans e2) (ex_none e1 hp) ?_
    have : i = 1 ∨ i = 2 ∨ i = 3 := by
      simp at hb
      omega
    rcases this with rfl | rfl | rfl <;> exact hd
  refine sq_ifRet (et_test (ed_op (ed_var (i := 0) rfl (Dpm h1 e1)) (ed_int (i := 5)) rd_eqI)) (fun hb2 H2 e2 => ?_) fun hb2 H2 e2 => ?_
  · have : i = 5 := by
      simp at hb2
      omega
    subst this
    refine sd_retF (K := K) (ef_catS (ed_lst (es_cons ed_non es_nil) (by simp)) (ed_listRg (er_2 (K := K) (ed_int (i := 1)) (ed_op (ed_c (.int 12)) (ed_int (i := 1)) rd_I0)) (by decide)) (by simp)) fun p H3 e3 hp hd => q p H3 ((e1.trans e2).trans e3) (ex_none (e1.trans e2) hp) ?_
    exact hd
  have hcase : (i = 0 ∧ valsD i = (List.range 3).map (fun k => PyData.int (1 + (k : Nat)))) ∨ (i = 4 ∧ valsD i = (List.range 4).map (fun k => PyData.int (0 + (k : Nat)))) ∨ (i = 6 ∧ valsD i = (List.range 3).map (fun k => PyData.int (1 + (k : Nat)))) := by
    simp at hb hb2
    have : i = 0 ∨ i = 4 ∨ i = 6 := by omega
    rcases this with rfl | rfl | rfl
    · exact .inl ⟨rfl, rfl⟩
    · exact .inr (.inl ⟨rfl, rfl⟩)
    · exact .inr (.inr ⟨rfl, rfl⟩)
  obtain ⟨j, lo, hi', hj, hno, hq, a1, a2, a3, a4, hval⟩ : ∃ (j : Nat) (lo hi : Int), ([0, 4, 6] : List Int)[j]? = some (i : Int) ∧ (∀ m, m < j → ([0, 4, 6] : List Int)[m]? ≠ some (i : Int)) ∧ ([PyData.tuple [.int 1, .int 3], .tuple [.int 0, .int 3], .tuple [.int 1, .int 3]] : List PD)[j]? = some (.tuple [.int lo, .int hi]) ∧
      0 ≤ lo ∧ lo ≤ 100 ∧ 0 ≤ hi ∧ hi ≤ 100 ∧ valsD i = (List.range (hi + 1 - lo).toNat).map (fun k => PyData.int (lo + (k : Nat))) := by
    rcases hcase with ⟨rfl, hv⟩ | ⟨rfl, hv⟩ | ⟨rfl, hv⟩
    · exact ⟨0, 1, 3, rfl, by decide, rfl, by decide, by decide, by decide, by decide, hv⟩
    · exact ⟨1, 0, 3, rfl, by decide, rfl, by decide, by decide, by decide, by decide, hv⟩
    · exact ⟨2, 1, 3, rfl, by decide, rfl, by decide, by decide, by decide, by decide, hv⟩
  refine sq_tup2 (K := K) (i1 := 1) (i2 := 2) (d1 := .int lo) (d2 := .int hi') (ed_op (ed_lst (es_cons (ed_tup (es_cons (ed_int (i := 1)) (es_cons (ed_c (.int 3)) es_nil)) (by simp)) (es_cons (ed_tup (es_cons (ed_int (i := 0)) (es_cons (ed_c (.int 3)) es_nil)) (by simp)) (es_cons (ed_tup (es_cons (ed_int (i := 1)) (es_cons (ed_c (.int 3)) es_nil)) (by simp)) es_nil))) (by simp))
      (ed_indexI (ns := [0, 4, 6]) (j := j) (ed_lst (es_cons ed_int (es_cons ed_int (es_cons ed_int es_nil))) (by simp)) (ed_var (i := 0) rfl (Dpm h1 (e1.trans e2))) hj hno) (rd_ixL (at_of rfl hq))) fun x1 x2 H3 e3 a b => ?_
  refine sd_retF (K := K) (ef_listRg (er_2 (K := K) (ed_var (i := 1) rfl a) (ed_op (ed_var (i := 2) rfl b) (ed_int (i := 1)) rd_I0)) (by omega)) fun p H4 e4 hp hd => q p H4 (((e1.trans e2).trans e3).trans e4) (ex_none ((e1.trans e2).trans e3) hp) ?_
  rw [hval]
  exact hd
/-! ### every_rule -/
/-! every_rule: 0 found, 1 index, 2 head, 3 value -/
abbrev s_every_rule : Stmt := topS 36
theorem sc_every_rule : FnScope ["found", "index", "head", "value"] [] (defScope s_every_rule) := by
  exact ⟨rfl, rfl, rfl, by decide +kernel, rfl, by decide +kernel, by decide +kernel⟩

/-- the heads of n values -/
def everyN : Nat → List (List PD)
  | 0 => [[]]
  | n + 1 => (everyN n).flatMap fun h => (valsD n).map fun v => h ++ [v]
def everyLen : Nat → Nat
  | 0 => 1
  | n + 1 => everyLen n * (valsD n).length
theorem everyN_len : ∀ n, (everyN n).length = everyLen n
  | 0 => rfl
  | n + 1 => by
    have h : ∀ l : List (List PD), (l.flatMap fun h => (valsD n).map fun v => h ++ [v]).length = l.length * (valsD n).length := fun l => by
      induction l with
      | nil => simp
      | cons a l ih => rw [List.flatMap_cons, List.length_append, ih, List.length_map, List.length_cons, Nat.succ_mul, Nat.add_comm]
    show ((everyN n).flatMap fun h => (valsD n).map fun v => h ++ [v]).length = everyLen n * (valsD n).length
    rw [h, everyN_len n]
theorem everyN_each : ∀ n, ∀ h ∈ everyN n, h.length = n ∧ tupOnlyAll h = true
  | 0, h, hh => by
    have : h = [] := by simpa [everyN] using hh
    subst this
    exact ⟨rfl, rfl⟩
  | n + 1, h, hh => by
    obtain ⟨h', hh', hm⟩ := List.mem_flatMap.mp hh
    obtain ⟨v, hv, rfl⟩ := List.mem_map.mp hm
    obtain ⟨a, b⟩ := everyN_each n h' hh'
    refine ⟨by rw [List.length_append, a]; rfl, tupOnlyAll_app b (tupOnlyAll_one (vals_tup n v hv))⟩
where
  vals_tup : ∀ (n : Nat) (v : PD), v ∈ valsD n → tupOnly v = true := fun n v hv => by
    have : ∀ m, (valsD m).all tupOnly = true := fun m => by
      match m with
      | 0 => rfl
      | 1 => rfl
      | 2 => rfl
      | 3 => rfl
      | 4 => rfl
      | 5 => rfl
      | n + 6 => rfl
    exact List.all_eq_true.mp (this n) v hv
theorem vals_tupAll (n : Nat) : tupOnlyAll (valsD n) = true := by
  match n with
  | 0 => rfl
  | 1 => rfl
  | 2 => rfl
  | 3 => rfl
  | 4 => rfl
  | 5 => rfl
  | n + 6 => rfl
def R_every_rule (ds : List PD) (d : PD) : Prop := ds = [] ∧ d = .list ((everyN 7).map .tuple)
def appD (d v : PD) : PD := match d with
  | .tuple l => .tuple (l ++ [v])
  | x => x
theorem cal_every_rule (T : Txt K mg aF) (F : DefK K mg "every_rule" s_every_rule []) (C_values_of : C8.Cal P w K mg base 1 "values_of" (PFF K R_values_of) []) : C8.Cal P w K mg base 2 "every_rule" (PF K R_every_rule) [] := by
  refine cal_mk F sc_every_rule (PF.len fun ds d ⟨e, _⟩ => by rw [e]; rfl) fun f cdv A outer s H vs Q E hr h => ?_
  have nd := sc_every_rule.nd
  have hr1 := hr
  obtain ⟨ds, d, hv, ⟨rfl, rfl⟩, q⟩ := h
  cases len0 hv
  refine ⟨_, ((pss_cons (ps_set (i := 0) nd rfl (Or.inl rfl) (pe_lst (pa_cons (pe_tup pa_nil) pa_nil))) 
    (pss_cons (ps_for PassesOwn.never rfl (pi_range1 (by rfl) T.b_range (pa_cons pe_int pa_nil)) (pg_name (i := 1) nd rfl (Or.inr rfl)) 
      (pss_one (ps_setLc2 (i := 0) (own := [("head", 2), ("value", 3)]) (vs1 := [3]) rfl nd rfl rfl (sw_true rfl rfl rfl (by decide +kernel)) (pi_listK K rfl (pv 0)) (blkOk_by (own := [("head", 2), ("value", 3)]) (by kernel_rfl)) (by decide) (fun _ _ _ _ _ => (pg_name (i := 2) nd rfl (Or.inl rfl))) (fun _ _ _ _ _ => pts_nil) (fun _ _ _ _ _ => (pi_listK K rfl (C8.pe_c C_values_of hr1 (by decide) (by rfl) (pa_cons (pv 1) pa_nil)))) (fun _ _ _ _ _ => (pg_name (i := 3) nd rfl (Or.inl rfl))) (fun _ _ _ _ _ => pts_nil) (fun _ _ _ _ _ => (pe_op (op_catAK K rfl) (pv 2) (pe_tup (pa_cons (pv 3) pa_nil))))))) 
    (pss_one (ps_ret (pv 0)))))), ?_⟩
  refine sq_set (K := K) (d := .list [.tuple []]) (ed_lst (es_cons (ed_tup es_nil (by simp)) es_nil) (by simp)) fun v0 H1 e1 hv0 => ?_
  refine sq_for0 (K := K) (Hb := H1) (ds := rangeD 0 7) (Ex.refl H1) (ei0_r1 (es_cons (ed_int (i := 7)) es_nil) (by decide))
    (fun i σ' H' => ∃ v x, σ' = [some v, x, none, none] ∧ Ex H1 H' ∧ Dp K H' v (.list ((everyN i).map .tuple))) (fun H2 e2 => ⟨v0, none, rfl, e2, Dpm hv0 e2⟩) (fun i σ' H' ⟨_, _, _, e, _⟩ => e) ?_ ?_
  · rintro i d x σ' H' H2 hd ⟨v, y, rfl, e0, hv⟩ e2 hx
    have hi : i < 7 := (List.getElem?_eq_some_iff.mp hd).1
    rw [rangeD_get hi] at hd
    obtain rfl := Option.some.inj hd
    rw [Int.zero_add] at hx
    have l6 : (everyN (i + 1)).length ≤ 100000 := by
      rw [everyN_len]
      have : i = 0 ∨ i = 1 ∨ i = 2 ∨ i = 3 ∨ i = 4 ∨ i = 5 ∨ i = 6 := by omega
      rcases this with rfl | rfl | rfl | rfl | rfl | rfl | rfl <;> decide
    have eqL : (((everyN i).map PyData.tuple).flatMap fun d => (valsD i).map (appD d)) = (everyN (i + 1)).map .tuple := by
      show _ = ((everyN i).flatMap fun h => (valsD i).map fun v => h ++ [v]).map PyData.tuple
      rw [List.flatMap_map, List.map_flatMap]
      refine congrArg List.flatten (List.map_congr_left fun h _ => ?_)
      show (valsD i).map (appD (.tuple h)) = ((valsD i).map fun v => h ++ [v]).map PyData.tuple
      rw [List.map_map]
      rfl
    show tAsg _ _ _ [some v, some x, none, none] H2
    refine sd_set (K := K) (d := .list ((everyN (i + 1)).map .tuple)) ?_ fun v' H3 e3 hv' => ⟨v', some x, rfl, (e0.trans e2).trans e3, hv'⟩
    rw [← eqL]
    refine ed_lcN (K := K) (fun _ => valsD i) appD (ei_list (ed_var (i := 0) rfl (Dpm hv e2))) (by rw [eqL, List.length_map]; exact l6) (fun _ => rfl) (fun _ _ => rfl) (fun d hd => ?_) (fun d hd x1 H3 e3 hx1 => ?_) fun d hd e he x1 y1 H3 e3 hx1 hy1 => ?_
    · obtain ⟨h, hh, rfl⟩ := List.mem_map.mp hd
      obtain ⟨a, b⟩ := everyN_each i h hh
      exact ⟨b, vals_tupAll i, fun e he => tupOnlyAll_app b (tupOnlyAll_one (everyN_each.vals_tup i e he))⟩
    · exact ef_call (es_cons (ed_var (i := 1) rfl (Dpm hx e3)) es_nil) ⟨i, hi, rfl, rfl⟩
    · obtain ⟨h, hh, rfl⟩ := List.mem_map.mp hd
      obtain ⟨a, b⟩ := everyN_each i h hh
      exact ed_op (ed_var (i := 2) rfl hx1) (ed_tup (es_cons (ed_var (i := 3) rfl hy1) es_nil) (by simp)) (rd_catA (by rw [a, List.length_singleton]; omega))
  · rintro σ' H' ⟨v, y, rfl, e0, hv⟩
    exact sd_ret (ed_var (i := 0) rfl hv) fun z H2 e2 hz => q z H2 ((e1.trans e0).trans e2) hz
/-! ### is_row_of -/
/-! is_row_of: 0 value, 1 event -/
abbrev s_is_row_of : Stmt := topS 22
theorem sc_is_row_of : FnScope ["value", "event"] ["value"] (defScope s_is_row_of) := by
  exact ⟨rfl, rfl, rfl, by decide +kernel, rfl, by decide +kernel, by decide +kernel⟩

def smallStr : PD → Prop
  | .str s => s.length ≤ 1000
  | _ => True
def isRowOf : PD → Bool
  | .str s => decide ((s.length : Int) ≤ 60) && s.cps.toList.all fun c => decide (c ∈ ("-ab" : Str).cps.toList)
  | _ => false
def R_is_row_of (ds : List PD) (d : PD) : Prop := ∃ x, smallStr x ∧ ds = [x] ∧ d = .bool (isRowOf x)
theorem rd_inSign {c : Nat} {z : Str} : RD K (fun x y H Q => ∃ (c : Nat) (z : Str), x = .str ⟨#[c]⟩ ∧ y = .str z ∧ Q (.bl (decide (c ∈ z.cps.toList))) H) (.str ⟨#[c]⟩) (.str z) (.bool (decide (c ∈ z.cps.toList))) := fun H v u hv hu Q q => by
  cases hv; cases hu
  exact ⟨c, z, rfl, rfl, q _ H (Ex.refl H) (.bl _)⟩
def signIn (d : PD) : PD := match d with
  | .str s => .bool (s.cps.toList.all fun c => decide (c ∈ ("-ab" : Str).cps.toList))
  | x => x
theorem len_le {s : Str} (h : s.length ≤ 1000) : s.length ≤ sizeLine := by rw [sizeLine_eq]; omega
theorem cal_is_row_of (T : Txt K mg aF) (F : DefK K mg "is_row_of" s_is_row_of ["value"]) : C8.Cal P w K mg base 1 "is_row_of" (PF K R_is_row_of) [] := by
  refine cal_mk F sc_is_row_of (PF.len fun ds d ⟨_, _, e, _⟩ => by rw [e]; rfl) fun f cdv A outer s H vs Q E hr h => ?_
  have nd := sc_is_row_of.nd
  obtain ⟨ds, d, hv, ⟨x, hx, rfl, rfl⟩, q⟩ := h
  obtain ⟨v1, rfl, h1⟩ := len1 hv
  refine ⟨_, ((pss_one (ps_ret (pe_and (pe_callB (isi_K K rfl) (by rfl) T.b_isinstance bb_isinstance (pa_cons (pv 0) (pa_cons (pe_bltn (v := .ty "str") (by rfl) T.b_str bb_str rfl) pa_nil))) (pe_and (pe_cmpR op_le (pe_callB (call_lenK K rfl) (by rfl) T.b_len bb_len (pa_cons (pv 0) pa_nil)) (C8.pe_gc (by rfl) T.c_MOST_EVENTS) (nomark _)) (pe_one (pe_callB (cr_allK K rfl rfl) (by rfl) T.b_all bb_all (pa_cons (pe_lc (own := [("event", 1)]) rfl nd (pi_str (pv 0)) (blkOk_by (own := [("event", 1)]) (by kernel_rfl)) (fun _ _ _ _ _ => (pg_name (i := 1) nd rfl (Or.inl rfl))) (fun _ _ _ _ _ => pts_nil) (fun _ _ _ _ _ => (pe_cmpR op_in_sign (pv 1) (C8.pe_gc (by rfl) T.c_EVENTS) (by with_unfolding_all rfl)))) pa_nil)))))))), ?_⟩
  have V1 := ed_var (K := K) (H := H) (σ := L2.start ["value", "event"] [v1]) (i := 0) rfl h1
  refine sd_ret (K := K) ?_ q
  have no : ∀ {tx : TE} {b2 : Bool}, PySem.W.kitOne K (.type (tyOf x)) (.type "str") = some false → isRowOf x = false →
      EvD K (tAndV (tCB (rIsi K) (tCons (tVar 0) (tCons (tC (.ty "str")) tNil))) tx) (L2.start ["value", "event"] [v1]) H (.bool (isRowOf x)) :=
    fun k e => (ed_andV (b := false) (rc_isa k V1) fun z => by cases z).is (by rw [e]; rfl)
  cases x with
  | int i => exact no (b2 := true) (kit_ty kb_int_str) rfl
  | bool c => exact no (b2 := true) (kit_ty kb_bool_str) rfl
  | none => exact no (b2 := true) (kit_ty kb_none_str) rfl
  | list c => exact no (b2 := true) (kit_ty kb_list_str) rfl
  | tuple c => exact no (b2 := true) (kit_ty kb_tuple_str) rfl
  | dict c => cases h1
  | str z =>
    have hz : z.length ≤ 1000 := hx
    refine (ed_andV (rc_isa (d := .str z) (kit_ty kb_str_str) V1) fun _ => ed_andV (ed_op (ed_cb (es_cons V1 es_nil) (rc_lenS (len_le hz))) (ed_c (.int 60)) (rd_B0 (g := fun i j => decide (i ≤ j)))) fun _ => ed_cb (es_cons ((ed_lcM (K := K) signIn (ei0_str V1).evI (by rw [signsD_len]; show z.length ≤ _; omega) (fun _ => rfl) (fun d hd => ?_) fun d hd x1 H1 e1 hx1 => ?_).is ?_) es_nil) (rc_all (bs := z.cps.toList.map fun c => decide (c ∈ ("-ab" : Str).cps.toList)))).is ?_
    · obtain ⟨c, _, rfl⟩ := List.mem_map.mp hd
      rfl
    · obtain ⟨c, _, rfl⟩ := List.mem_map.mp hd
      exact (ed_op (ed_var (i := 1) rfl hx1) (ed_c (.str "-ab")) rd_inSign).is (by show PyData.bool _ = .bool ([c].all _); simp)
    · unfold signsD
      rw [List.map_map, List.map_map]
      refine congrArg PyData.list (List.map_congr_left fun c _ => ?_)
      show PyData.bool ([c].all _) = .bool _
      simp
    · rw [List.all_map]
      rfl
/-! ### are_sizes_of -/
theorem not_t {b : Bool} (h : (!b) = true) : b = false := by cases b <;> simp_all
theorem not_f {b : Bool} (h : (!b) = false) : b = true := by cases b <;> simp_all
/-! are_sizes_of: 0 value, 1 one -/
abbrev s_are_sizes_of : Stmt := topS 23
theorem sc_are_sizes_of : FnScope ["value", "one"] ["value"] (defScope s_are_sizes_of) := by
  exact ⟨rfl, rfl, rfl, by decide +kernel, rfl, by decide +kernel, by decide +kernel⟩

def areSizes : PD → Bool
  | .tuple l => (decide ((1 : Int) ≤ (l.length : Int)) && decide ((l.length : Int) ≤ 4)) && l.all fun d => isFrom d 0 4
  | _ => false
def R_are_sizes_of (ds : List PD) (d : PD) : Prop := ∃ x, ds = [x] ∧ d = .bool (areSizes x)
theorem cal_are_sizes_of (T : Txt18 K mg aF aS) (F : DefK K mg "are_sizes_of" s_are_sizes_of ["value"]) (C_is_from : C8.Cal P w K mg base 1 "is_from" (PF K R_is_from) []) : C8.Cal P w K mg base 2 "are_sizes_of" (PF K R_are_sizes_of) [] := by
  refine cal_mk F sc_are_sizes_of (PF.len fun ds d ⟨_, e, _⟩ => by rw [e]; rfl) fun f cdv A outer s H vs Q E hr h => ?_
  have nd := sc_are_sizes_of.nd
  have hr1 := hr
  obtain ⟨ds, d, hv, ⟨x, rfl, rfl⟩, q⟩ := h
  obtain ⟨v1, rfl, h1⟩ := len1 hv
  refine ⟨_, ((pss_cons (ps_if (PW.pt (pw_or (pt_not (pt_val (pe_callB (isi_K K rfl) (by rfl) T.b_isinstance bb_isinstance (pa_cons (pv 0) (pa_cons (pe_bltn (v := .ty "tuple") (by rfl) T.b_tuple bb_tuple rfl) pa_nil))))) (pw_or1 (pt_not (pt_chain op_le op_le pe_int (pe_callB (call_lenK K rfl) (by rfl) T.b_len bb_len (pa_cons (pv 0) pa_nil)) (pe_op op_add (C8.pe_gc (by rfl) T.c_MOST_KEEP) pe_int)))))) 
      (pss_one (ps_ret pe_bl)) pss_nil) 
    (pss_one (ps_ret (pe_callB (cr_allK K rfl rfl) (by rfl) T.b_all bb_all (pa_cons (pe_lc (own := [("one", 1)]) rfl nd (pi_tupK K rfl (pv 0)) (blkOk_by (own := [("one", 1)]) (by kernel_rfl)) (fun _ _ _ _ _ => (pg_name (i := 1) nd rfl (Or.inl rfl))) (fun _ _ _ _ _ => pts_nil) (fun _ _ _ _ _ => (C8.pe_c C_is_from hr1 (by decide) (by rfl) (pa_cons (pv 1) (pa_cons pe_int (pa_cons (C8.pe_gc (by rfl) T.c_MOST_LINES) pa_nil)))))) pa_nil)))))), ?_⟩
  have V1 := ed_var (K := K) (H := H) (σ := L2.start ["value", "one"] [v1]) (i := 0) rfl h1
  have no : ∀ {t : TT} {tz : TS} {b2 : Bool}, PySem.W.kitOne K (.type (tyOf x)) (.type "tuple") = some false → areSizes x = false →
      tSeq (tIfS (tOr (tNot (tB (tCB (rIsi K) (tCons (tVar 0) (tCons (tC (.ty "tuple")) tNil))))) t) (tRet (tC (.bl false))) tNext) tz { nx := fun _ H' => Q .non H', rt := Q } (L2.start ["value", "one"] [v1]) H :=
    fun {t tz b2} k e => sq_ifRet (b := true) (Evl.et_or (a := true) (b := b2) (Evl.et_not (a := false) (et_B (rc_isa k V1))) fun z => by cases z) (fun _ H1 e1 => sd_ret (K := K) ed_bl fun v H2 e2 hv => q v H2 (e1.trans e2) (by rw [e]; exact hv)) fun z => by cases z
  cases x with
  | int i => exact no (b2 := true) (kit_ty kb_int_tuple) rfl
  | bool c => exact no (b2 := true) (kit_ty kb_bool_tuple) rfl
  | none => exact no (b2 := true) (kit_ty kb_none_tuple) rfl
  | list c => exact no (b2 := true) (kit_ty kb_list_tuple) rfl
  | str c => exact no (b2 := true) (kit_ty kb_str_tuple) rfl
  | dict c => cases h1
  | tuple l =>
    refine sq_ifRet (b := !(decide ((1 : Int) ≤ (l.length : Int)) && decide ((l.length : Int) ≤ 4))) ?_ (fun hb H1 e1 => ?_) fun hb H1 e1 => ?_
    · have o := Evl.et_or (Evl.et_not (et_B (rc_isa (d := .tuple l) (kit_ty kb_tuple_tuple) V1))) fun _ => Evl.et_not (et_test (ed_chain (p := fun i j => decide (i ≤ j)) (p' := fun i j => decide (i ≤ j)) (ed_int (i := 1)) (ed_cb (es_cons V1 es_nil) rc_lenT) (ed_op (ed_c (.int 3)) (ed_int (i := 1)) (rd_I0 (g := fun i j => i + j)))))
      exact o
    · refine sd_ret (K := K) (ed_bl (b := false)) fun v H2 e2 hv => q v H2 (e1.trans e2) ?_
      have e : areSizes (.tuple l) = false := by
        show ((decide ((1 : Int) ≤ (l.length : Int)) && decide ((l.length : Int) ≤ 4)) && l.all fun d => isFrom d 0 4) = false
        rw [not_t hb]
        rfl
      rw [e]
      exact hv
    · have hb' : (decide ((1 : Int) ≤ (l.length : Int)) && decide ((l.length : Int) ≤ 4)) = true := not_f hb
      have hl : l.length ≤ 4 := by
        simp at hb'
        omega
      refine sd_ret (K := K) (d := .bool (areSizes (.tuple l))) ?_ fun v H2 e2 hv => q v H2 (e1.trans e2) hv
      refine (ed_cb (es_cons ((ed_lcM (K := K) (fun d => .bool (isFrom d 0 4)) (ei0_tup (ds := l) (i := 0) rfl (Dpm h1 e1)).evI (by omega) (fun _ => rfl) (fun d hd => rfl) fun d hd x1 H2 e2 hx1 => ?_).is ?_) es_nil) (rc_all (bs := l.map fun d => isFrom d 0 4))).is ?_
      · exact ed_call (es_cons (ed_var (i := 1) rfl hx1) (es_cons ed_int (es_cons (ed_c (.int 4)) es_nil))) ⟨d, 0, 4, rfl, rfl⟩
      · rw [List.map_map]
        rfl
      · show _ = PyData.bool ((decide ((1 : Int) ≤ (l.length : Int)) && decide ((l.length : Int) ≤ 4)) && l.all fun d => isFrom d 0 4)
        rw [List.all_map, hb']
        rfl
/-! ### the rules -/
def rulesAll : List Rule :=
  ([1, 2, 3] : List Int).flatMap fun s => [false, true].flatMap fun e => [false, true].flatMap fun dl => [false, true].flatMap fun em => ([0, 1, 2, 3] : List Int).flatMap fun k =>
    ([none, some 1, some 2, some 3, some 4, some 5, some 6, some 7, some 8, some 9, some 10, some 11, some 12] : List (Option Int)).flatMap fun p => ([1, 2, 3] : List Int).map fun f => ⟨s, e, dl, em, k, p, f⟩
theorem every_eq : (everyN 7).map PyData.tuple = rulesAll.map ruleD := by kernel_rfl
def okB (r : Rule) : Bool := decide (1 ≤ r.size) && decide (r.size ≤ 3) && decide (0 ≤ r.keep) && decide (r.keep ≤ 3) && decide (1 ≤ r.factor) && decide (r.factor ≤ 3) && (match r.pages with | none => true | some p => decide (1 ≤ p) && decide (p ≤ 12))
theorem okB_ok {r : Rule} (h : okB r = true) : r.Ok := by
  unfold okB at h
  simp only [Bool.and_eq_true, decide_eq_true_eq] at h
  obtain ⟨⟨⟨⟨⟨⟨h1, h2⟩, h3⟩, h4⟩, h5⟩, h6⟩, h7⟩ := h
  refine ⟨h1, h2, h3, h4, fun p e => ?_, h5, h6⟩
  rw [e] at h7
  simpa using h7
theorem rules_okB : rulesAll.all okB = true := by decide +kernel
theorem rules_ok {r : Rule} (h : r ∈ rulesAll) : r.Ok := okB_ok (List.all_eq_true.mp rules_okB r h)
theorem rules_len : rulesAll.length = 3744 := by decide +kernel
def unRule : PD → Rule
  | .tuple [.int s, .bool e, .bool dl, .bool em, .int k, .int p, .int f] => ⟨s, e, dl, em, k, some p, f⟩
  | .tuple [.int s, .bool e, .bool dl, .bool em, .int k, .none, .int f] => ⟨s, e, dl, em, k, none, f⟩
  | _ => ⟨0, false, false, false, 0, none, 0⟩
theorem unRule_ruleD (r : Rule) : unRule (ruleD r) = r := by
  obtain ⟨s, e, dl, em, k, p, f⟩ := r
  cases p <;> rfl
theorem ruleD_tup (r : Rule) : tupOnly (ruleD r) = true := by
  obtain ⟨s, e, dl, em, k, p, f⟩ := r
  cases p <;> rfl
def unEvt : Nat → Evt
  | 45 => .d
  | 97 => .a
  | _ => .b
def unRow (s : Str) : List Evt := s.cps.toList.map unEvt
theorem unRow_rowS (es : List Evt) : unRow (rowS es) = es := by
  show ((es.map Evt.cp).toArray.toList).map unEvt = es
  rw [List.map_map]
  conv => rhs; rw [← List.map_id es]
  refine List.map_congr_left fun e _ => ?_
  cases e <;> rfl
def unInt : PD → Int
  | .int i => i
  | _ => 0
def unSz : PD → List Int
  | .tuple l => l.map unInt
  | _ => []
theorem unSz_szD (l : List Int) : unSz (szD l) = l := by
  show (l.map PyData.int).map unInt = l
  rw [List.map_map]
  conv => rhs; rw [← List.map_id l]
  rfl
/-! ### rules_for -/
/-! rules_for: 0 seen, 1 one, 2 row, 3 sizes, 4 rule -/
abbrev s_rules_for : Stmt := topS 37
theorem sc_rules_for : FnScope ["seen", "one", "row", "sizes", "rule"] ["seen"] (defScope s_rules_for) := by
  exact ⟨rfl, rfl, rfl, by decide +kernel, rfl, by decide +kernel, by decide +kernel⟩

abbrev Seen := List (List Evt × List Int)
structure GoodSeen (l : Seen) : Prop where
  len : l.length ≤ 6
  row : ∀ p ∈ l, p.1.length ≤ 60
  sz : ∀ p ∈ l, 1 ≤ p.2.length ∧ p.2.length ≤ 4
def pairD (p : List Evt × List Int) : PD := .tuple [rowD p.1, szD p.2]
def seenD (l : Seen) : PD := .tuple (l.map pairD)
def fits (l : Seen) (r : Rule) : Bool := l.all fun p => decide (behind r p.1 = p.2)
def isTup : PD → Bool
  | .tuple _ => true
  | _ => false
def pairOk : PD → Bool
  | .tuple l => decide ((l.length : Int) = 2)
  | _ => false
def rowOk : PD → Bool
  | .tuple [a, b] => isRowOf a && areSizes b
  | _ => false
def okSeen : PD → Bool
  | .tuple l => !decide ((6 : Int) < (l.length : Int)) && (l.all pairOk && l.all rowOk)
  | _ => false
def smallSeen (d : PD) : Prop := ∀ l, d = .tuple l → ∀ a b, PyData.tuple [a, b] ∈ l → smallStr a
def spRF (K : PySem.W.Frag) (aS : Addr) : Sp := fun vs H Q E => ∃ d, DpAll K H vs [d] ∧ smallSeen d ∧ (okSeen d = false → ∀ H', Ex H H' → E (.ref aS) none H') ∧
  (okSeen d = true → ∃ l, GoodSeen l ∧ d = seenD l ∧ ∀ v H', Ex H H' → Dp K H' v (.list ((rulesAll.filter (fits l)).map ruleD)) → Q v H')
theorem kb_dict_tuple : kitB "dict" "tuple" = some false := by decide +kernel
theorem ed_isTup {ta : TE} {σ : L2.St} {H : Hp} {d : PD} (h : EvD K ta σ H d) : EvD K (tCB (rIsi K) (tCons ta (tCons (tC (.ty "tuple")) tNil))) σ H (.bool (isTup d)) := by
  cases d with
  | int i => exact rc_isa (d := .int i) (kit_ty kb_int_tuple) h
  | bool i => exact rc_isa (d := .bool i) (kit_ty kb_bool_tuple) h
  | none => exact rc_isa (d := .none) (kit_ty kb_none_tuple) h
  | str i => exact rc_isa (d := .str i) (kit_ty kb_str_tuple) h
  | list i => exact rc_isa (d := .list i) (kit_ty kb_list_tuple) h
  | tuple i => exact rc_isa (d := .tuple i) (kit_ty kb_tuple_tuple) h
  | dict i => exact rc_isa (d := .dict i) (kit_ty kb_dict_tuple) h
theorem ed_lc2M {wi : TI} {te : TE} {σ : L2.St} {H : Hp} {ds : List PD} {j1 j2 : Nat} {vs : List Nat} (w : PD → PD) (hi : EvI K wi σ H ds) (hn : ds.length ≤ 100000) (hp : ∀ d ∈ ds, ∃ d1 d2, d = .tuple [d1, d2]) (hw : ∀ x y, wipe (((wipe σ vs).set j1 (some x)).set j2 (some y)) vs = wipe σ vs)
    (ht : ∀ d ∈ ds, tupOnly (w d) = true)
    (h2 : ∀ d1 d2, PyData.tuple [d1, d2] ∈ ds → ∀ x y H1, Ex H H1 → Dp K H1 x d1 → Dp K H1 y d2 → EvD K te (((wipe σ vs).set j1 (some x)).set j2 (some y)) H1 (w (.tuple [d1, d2]))) :
    EvD K (tLc wi (gTup K 2 (gCons (gName j1) (gCons (gName j2) gNil))) tYes te vs) σ H (.list (ds.map w)) := by
  have h := ed_lc2 (t := tYes) (fun _ => true) w hi hn hp hw (fun d hd _ => ht d hd) (fun _ _ _ _ _ _ _ _ _ => et_yes) fun d1 d2 hd _ => h2 d1 d2 hd
  have e : ds.filter (fun _ => true) = ds := List.filter_eq_self.mpr fun _ _ => rfl
  rw [e] at h
  exact h
theorem calX_mk {x : Str} {st : Stmt} {N ps : List Str} {k : Nat} {sp : Sp} (F : DefK K mg x st ps) (S : FnScope N ps (defScope st)) (len : ∀ vs H Q E, sp vs H Q E → vs.length = ps.length)
    (hbody : ∀ (f : Addr) (cdv : Value) (A : Around) (outer : List Env) (s : Shared) (H : Hp) (vs : List V) (Q : VK) (E : XK), Room k (A.deeper (envOfC x (defScope st) s.heap.objs.size f cdv)) → sp vs H Q E →
      ∃ t, PSs (cxOf (L2N.CX P w) P w K mg base N x (defScope st) f cdv A outer s H E) (defBody st) t ∧ t { nx := fun _ H' => Q .non H', rt := Q } (L2.start N vs) H) : CalX P w K mg base (k + 1) x sp := by
  obtain ⟨f, fd, F, m, b⟩ := F.ex
  exact ⟨f, fd, ps, fun_okN F S len fun cdv A outer s H vs Q E hr h => hbody f cdv A outer s H vs Q E hr h, m, F.kp, b⟩
theorem cal_rules_for (T : Txt18 K mg aF aS) (F : DefK K mg "rules_for" s_rules_for ["seen"]) (C_every_rule : C8.Cal P w K mg base 2 "every_rule" (PF K R_every_rule) []) (C_behind : C8.Cal P w K mg base 5 "behind" (PF K R_behind) [])
    (C_is_row_of : C8.Cal P w K mg base 1 "is_row_of" (PF K R_is_row_of) []) (C_are_sizes_of : C8.Cal P w K mg base 2 "are_sizes_of" (PF K R_are_sizes_of) []) : CalX P w K mg base 6 "rules_for" (spRF K aS) := by
  refine calX_mk F sc_rules_for (fun vs H Q E ⟨d, h, _⟩ => h.length) fun f cdv A outer s H vs Q E hr h => ?_
  have nd := sc_rules_for.nd
  have hr1 := hr
  have hu64 := hu_64 hr1
  obtain ⟨d, hv, hsm, hbad, hgood⟩ := h
  obtain ⟨v1, rfl, h1⟩ := len1 hv
  refine ⟨_, ((pss_cons (ps_if (PW.pt (pw_or (pt_not (pt_val (pe_callB (isi_K K rfl) (by rfl) T.b_isinstance bb_isinstance (pa_cons (pv 0) (pa_cons (pe_bltn (v := .ty "tuple") (by rfl) T.b_tuple bb_tuple rfl) pa_nil))))) (pw_or1 (pt_cmpR op_gt (pe_callB (call_lenK K rfl) (by rfl) T.b_len bb_len (pa_cons (pv 0) pa_nil)) (C8.pe_gc (by rfl) T.c_MOST_SEEN) (nomark _))))) 
      (pss_one (L2N.ps_raise rfl (L2N.takes_of rfl rfl rfl rfl) (L2N.pmk_own PySem.F.excBase_ValueError T.x_InvalidSeen T.g_InvalidSeen T.k_InvalidSeen (raises_own T.q_InvalidSeen T.t_InvalidSeen) (by rfl)))) pss_nil) 
    (pss_cons (ps_if (pt_not (pt_val (pe_callB (cr_allK K rfl rfl) (by rfl) T.b_all bb_all (pa_cons (pe_lc (own := [("one", 1)]) rfl nd (pi_tupK K rfl (pv 0)) (blkOk_by (own := [("one", 1)]) (by kernel_rfl)) (fun _ _ _ _ _ => (pg_name (i := 1) nd rfl (Or.inl rfl))) (fun _ _ _ _ _ => pts_nil) (fun _ _ _ _ _ => (pe_and (pe_callB (isi_K K rfl) (by rfl) T.b_isinstance bb_isinstance (pa_cons (pv 1) (pa_cons (pe_bltn (v := .ty "tuple") (by rfl) T.b_tuple bb_tuple rfl) pa_nil))) (pe_one (pe_cmpR op_eq (pe_callB (call_lenK K rfl) (by rfl) T.b_len bb_len (pa_cons (pv 1) pa_nil)) pe_int (nomark _)))))) pa_nil)))) 
      (pss_one (L2N.ps_raise rfl (L2N.takes_of rfl rfl rfl rfl) (L2N.pmk_own PySem.F.excBase_ValueError T.x_InvalidSeen T.g_InvalidSeen T.k_InvalidSeen (raises_own T.q_InvalidSeen T.t_InvalidSeen) (by rfl)))) pss_nil) 
    (pss_cons (ps_if (pt_not (pt_val (pe_callB (cr_allK K rfl rfl) (by rfl) T.b_all bb_all (pa_cons (pe_lc (own := [("row", 2), ("sizes", 3)]) rfl nd (pi_tupK K rfl (pv 0)) (blkOk_by (own := [("row", 2), ("sizes", 3)]) (by kernel_rfl)) (fun _ _ _ _ _ => (pg_tupK K 2 rfl rfl (pgs_cons (pg_name (i := 2) nd rfl (Or.inl rfl)) (pgs_cons (pg_name (i := 3) nd rfl (Or.inl rfl)) pgs_nil)))) (fun _ _ _ _ _ => pts_nil) (fun _ _ _ _ _ => (pe_and (C8.pe_c C_is_row_of hr1 (by decide) (by rfl) (pa_cons (pv 2) pa_nil)) (pe_one (C8.pe_c C_are_sizes_of hr1 (by decide) (by rfl) (pa_cons (pv 3) pa_nil)))))) pa_nil)))) 
      (pss_one (L2N.ps_raise rfl (L2N.takes_of rfl rfl rfl rfl) (L2N.pmk_own PySem.F.excBase_ValueError T.x_InvalidSeen T.g_InvalidSeen T.k_InvalidSeen (raises_own T.q_InvalidSeen T.t_InvalidSeen) (by rfl)))) pss_nil) 
    (pss_one (ps_ret (pe_lc (own := [("rule", 4)]) rfl nd (pi_listK K rfl (pe_c0 C_every_rule hr1 (by decide) (by rfl))) (blkOk_by (own := [("rule", 4)]) (by kernel_rfl)) (fun _ _ _ _ _ => (pg_name (i := 4) nd rfl (Or.inr rfl))) (fun _ _ _ _ _ => pts_one (pt_val (pe_callB (cr_allK K rfl rfl) (by rfl) T.b_all bb_all (pa_cons (pe_lc (own := [("row", 2), ("sizes", 3)]) rfl nd (pi_tupK K rfl (pv 0)) (blkOk_by (own := [("row", 2), ("sizes", 3)]) (by kernel_rfl)) (fun _ _ _ _ _ => (pg_tupK K 2 rfl rfl (pgs_cons (pg_name (i := 2) nd rfl (Or.inl rfl)) (pgs_cons (pg_name (i := 3) nd rfl (Or.inl rfl)) pgs_nil)))) (fun _ _ _ _ _ => pts_nil) (fun _ _ _ _ _ => (pe_cmpR (op_eqDK K rfl hu64) (C8.pe_c C_behind hr1 (by decide) (by rfl) (pa_cons (pv 4) (pa_cons (pv 2) pa_nil))) (pv 3) (nomark _)))) pa_nil)))) (fun _ _ _ _ _ => (pv 4))))))))), ?_⟩
  have V1 := ed_var (K := K) (H := H) (σ := L2.start ["seen", "one", "row", "sizes", "rule"] [v1]) (i := 0) rfl h1
  by_cases hT : isTup d = true
  case neg =>
    have hT' : isTup d = false := by simpa using hT
    have hb : okSeen d = false := by
      cases d <;> first | rfl | (exfalso; exact hT rfl)
    exact sq_ifRet (b := true) (Evl.et_or (a := true) (b := true) (Evl.et_not (a := false) (et_B ((ed_isTup V1).is (by rw [hT'])))) fun z => by cases z) (fun _ H1 e1 => hbad hb H1 e1) fun z => by cases z
  obtain ⟨l, rfl⟩ : ∃ l, d = .tuple l := by
    cases d with
    | tuple l => exact ⟨l, rfl⟩
    | _ => cases hT
  refine sq_ifRet (b := decide ((6 : Int) < (l.length : Int))) ?_ (fun hb H1 e1 => hbad ?_ H1 e1) fun hb H1 e1 => ?_
  · have o := Evl.et_or (Evl.et_not (et_B (ed_isTup V1))) fun _ => et_test (ed_op (ed_cb (es_cons V1 es_nil) rc_lenT) (ed_c (.int 6)) (rd_B0 (g := fun i j => decide (j < i))))
    exact o
  · show (!decide ((6 : Int) < (l.length : Int)) && _) = false
    rw [hb]
    rfl
  have hl : l.length ≤ 6 := by
    simp at hb
    omega
  refine sq_ifRet (b := !(l.all pairOk)) ?_ (fun hb2 H2 e2 => hbad ?_ H2 (e1.trans e2)) fun hb2 H2 e2 => ?_
  · refine Evl.et_not (et_B ((ed_cb (es_cons ((ed_lcM (K := K) (fun d => .bool (pairOk d)) (ei0_tup (ds := l) (i := 0) rfl (Dpm h1 e1)).evI (by omega) (fun _ => rfl) (fun d hd => rfl) fun d hd x1 H2 e2 hx1 => ?_).is ?_) es_nil) (rc_all (bs := l.map pairOk))).is ?_))
    · have X1 := ed_var (K := K) (H := H2) (σ := [some v1, some x1, none, none, none]) (i := 1) rfl hx1
      cases d with
      | tuple m => exact (ed_andV (ed_isTup X1) fun _ => ed_op (ed_cb (es_cons X1 es_nil) rc_lenT) (ed_int (i := 2)) rd_eqI)
      | int i => exact ed_andV (b := false) (ed_isTup X1) fun z => by cases z
      | bool i => exact ed_andV (b := false) (ed_isTup X1) fun z => by cases z
      | none => exact ed_andV (b := false) (ed_isTup X1) fun z => by cases z
      | str i => exact ed_andV (b := false) (ed_isTup X1) fun z => by cases z
      | list i => exact ed_andV (b := false) (ed_isTup X1) fun z => by cases z
      | dict i => exact ed_andV (b := false) (ed_isTup X1) fun z => by cases z
    · rw [List.map_map]
      rfl
    · rw [List.all_map]
      rfl
  · show (!decide ((6 : Int) < (l.length : Int)) && (l.all pairOk && l.all rowOk)) = false
    rw [not_t hb2]
    cases decide ((6 : Int) < (l.length : Int)) <;> rfl
  have hp2 := not_f hb2
  have hpair : ∀ d ∈ l, ∃ d1 d2, d = .tuple [d1, d2] := fun d hd => by
    have h := List.all_eq_true.mp hp2 d hd
    cases d with
    | tuple m =>
      have h' : (m.length : Int) = 2 := of_decide_eq_true h
      match m, h' with
      | [a, b], _ => exact ⟨a, b, rfl⟩
      | [], h' => simp at h'
      | [_], h' => simp at h'
      | _ :: _ :: _ :: _, h' => simp at h'; omega
    | _ => cases h
  refine sq_ifRet (b := !(l.all rowOk)) ?_ (fun hb3 H3 e3 => hbad ?_ H3 ((e1.trans e2).trans e3)) fun hb3 H3 e3 => ?_
  · refine Evl.et_not (et_B ((ed_cb (es_cons ((ed_lc2M (K := K) (fun d => .bool (rowOk d)) (ei0_tup (ds := l) (i := 0) rfl (Dpm h1 (e1.trans e2))).evI (by omega) hpair (fun _ _ => rfl) (fun d hd => rfl) fun a b hd x1 y1 H3 e3 hx1 hy1 => ?_).is ?_) es_nil) (rc_all (bs := l.map rowOk))).is ?_))
    · exact ed_andV (ed_call (es_cons (ed_var (i := 2) rfl hx1) es_nil) ⟨a, hsm l rfl a b hd, rfl, rfl⟩) fun _ => ed_call (es_cons (ed_var (i := 3) rfl hy1) es_nil) ⟨b, rfl, rfl⟩
    · rw [List.map_map]
      rfl
    · rw [List.all_map]
      rfl
  · show (!decide ((6 : Int) < (l.length : Int)) && (l.all pairOk && l.all rowOk)) = false
    rw [not_t hb3, Bool.and_false, Bool.and_false]
  have hok : okSeen (.tuple l) = true := by
    show (!decide ((6 : Int) < (l.length : Int)) && (l.all pairOk && l.all rowOk)) = true
    rw [hb, hp2, not_f hb3]
    rfl
  obtain ⟨sl, gs, hd, q⟩ := hgood hok
  obtain rfl : l = sl.map pairD := by cases hd; rfl
  have e123 := (e1.trans e2).trans e3
  refine sd_ret (K := K) (d := .list ((rulesAll.filter (fits sl)).map ruleD)) ?_ fun v H4 e4 hv => q v H4 (e123.trans e4) hv
  refine (ed_lc (K := K) (ds := rulesAll.map ruleD) (fun d => fits sl (unRule d)) (fun d => d) (ei_list ((ed_call es_nil ⟨rfl, rfl⟩).is (by rw [every_eq]))) (by rw [List.length_map, rules_len]; omega) (fun _ => rfl) (fun d hd _ => ?_) (fun d hd x H4 e4 hx => ?_) fun d hd _ x H4 e4 hx => ed_var (i := 4) rfl hx).is ?_
  · obtain ⟨r, _, rfl⟩ := List.mem_map.mp hd
    exact ruleD_tup r
  · obtain ⟨r, hr, rfl⟩ := List.mem_map.mp hd
    have ok := rules_ok hr
    rw [unRule_ruleD]
    refine et_B ((ed_cb (es_cons ((ed_lc2M (K := K) (fun d => match d with | .tuple [.str a, b] => .bool (decide (behind r (unRow a) = unSz b)) | x => x) (ei0_tup (ds := sl.map pairD) (i := 0) rfl (Dpm h1 (e123.trans e4))).evI (by omega) (fun d hd => ?_) (fun _ _ => rfl) (fun d hd => ?_) fun a b hd x1 y1 H5 e5 hx1 hy1 => ?_).is ?_) es_nil) (rc_all (bs := sl.map fun p => decide (behind r p.1 = p.2)))).is ?_)
    · obtain ⟨p, _, rfl⟩ := List.mem_map.mp hd
      exact ⟨_, _, rfl⟩
    · obtain ⟨p, _, rfl⟩ := List.mem_map.mp hd
      rfl
    · obtain ⟨p, hp, e⟩ := List.mem_map.mp hd
      cases e
      have h60 := gs.row p hp
      refine (ed_op (ed_call (es_cons (ed_var (i := 4) rfl (Dpm hx e5)) (es_cons (ed_var (i := 2) rfl hx1) es_nil)) ⟨r, p.1, ok, by omega, rfl, rfl⟩) (ed_var (i := 3) rfl hy1) (rd_eqD ?_ ?_)).is ?_
      · exact (shp_tup (n := 1) fun d hd => by obtain ⟨i, _, rfl⟩ := List.mem_map.mp hd; exact shp_int).ok (by decide)
      · exact (shp_tup (n := 1) fun d hd => by obtain ⟨i, _, rfl⟩ := List.mem_map.mp hd; exact shp_int).ok (by decide)
      · show PyData.bool (PyData.eqvAll ((behind r p.1).map PyData.int) (p.2.map PyData.int)) = .bool (decide (behind r (unRow (rowS p.1)) = unSz (szD p.2)))
        rw [eqv_ints, unRow_rowS, unSz_szD]
    · rw [List.map_map, List.map_map]
      refine congrArg PyData.list (List.map_congr_left fun p _ => ?_)
      show PyData.bool (decide (behind r (unRow (rowS p.1)) = unSz (szD p.2))) = .bool (decide (behind r p.1 = p.2))
      rw [unRow_rowS, unSz_szD]
    · rw [List.all_map]
      rfl
  · rw [List.map_id', List.filter_map]
    refine congrArg (fun l => PyData.list (l.map ruleD)) (congrArg (fun g => rulesAll.filter g) (funext fun r => ?_))
    show fits sl (unRule (ruleD r)) = fits sl r
    rw [unRule_ruleD]
end
end Tlg
namespace Tlg
open PySem PySem.Spec PyProof.Rows L2
open Evl (Ex EvT EvO ex_l ex_t)
section
variable {P : Program} {w : World} {K : PySem.W.Frag} {mg : Str → Option Value} {base : Heap} {aF aS : Addr}
/-! ### the law's helpers: draws -/
theorem sd_retN {tl : TA} {D : Ends} {σ : L2.St} {H : Hp} {ds : List PD} (h : EvS K tl σ H ds) (hn : ds.length ≤ 100000) (k : ∀ vs q H1, Ex H H1 → H1 q = none → DpAll K H1 vs ds → D.rt (.ref q) (upd H1 q (.lst vs))) : tRet (tLst tl) D σ H :=
  h H (Ex.refl H) _ fun vs H1 e1 hs => ⟨Evl.sz_of (by rw [hs.length]; exact hn), fun q hq => k vs q H1 e1 hq hs⟩
/-! _law_deck: 0 _law_cell, 1 _law_turn -/
abbrev s__law_deck : Stmt := topS 39
theorem sc__law_deck : FnScope ["_law_cell", "_law_turn"] ["_law_cell", "_law_turn"] (defScope s__law_deck) := by
  exact ⟨rfl, rfl, rfl, by decide +kernel, rfl, by decide +kernel, by decide +kernel⟩

def spDeck : Sp := fun vs H Q _ => ∃ c t : Int, vs = [.int c, .int t] ∧ 0 ≤ t ∧ ∀ q H', Ex H H' → H q = none → Deck H' q t → Q (.ref q) H'
theorem cal__law_deck (T : Txt K mg aF) (F : DefK K mg "_law_deck" s__law_deck ["_law_cell", "_law_turn"]) : C8.Cal P w K mg base 1 "_law_deck" spDeck [] := by
  refine cal_mk F sc__law_deck (fun vs H Q E ⟨_, _, e, _⟩ => by rw [e]; rfl) fun f cdv A outer s H vs Q E hr h => ?_
  have nd := sc__law_deck.nd
  obtain ⟨c, t, rfl, ht, q⟩ := h
  refine ⟨_, ((pss_cons (ps_if (pt_cmpR op_ge (pv 0) (pe_op op_pow pe_int pe_int) (nomark _)) 
      (pss_one (ps_ret (pe_lst (pa_cons (pe_op op_sub (pv 0) (pe_op op_pow pe_int pe_int)) (pa_cons (pe_op op_mod (pe_callTy call_int1 (by rfl) T.b_int bb_int (pa_cons (pv 0) pa_nil)) pe_int) (pa_cons (pv 1) pa_nil)))))) pss_nil) 
    (pss_one (ps_ret (pe_lst (pa_cons pe_int (pa_cons (pe_op op_mod (pe_callTy call_int1 (by rfl) T.b_int bb_int (pa_cons (pv 0) pa_nil)) pe_int) (pa_cons (pv 1) pa_nil)))))))), ?_⟩
  have V0 : ∀ H, EvD K (tVar 0) [some (V.int c), some (.int t)] H (.int c) := fun H => ed_var rfl (.int c)
  have V1 : ∀ H, EvD K (tVar 1) [some (V.int c), some (.int t)] H (.int t) := fun H => ed_var rfl (.int t)
  have pw : ∀ H, EvD K (tOp (rI CPow fun i j => .int (i ^ j.toNat)) (tC (.int 10)) (tC (.int 18))) [some (V.int c), some (.int t)] H (.int (10 ^ (18 : Int).toNat)) := fun H => ed_op ed_int ed_int (rd_I ⟨by decide, by decide, by decide⟩)
  have y : ∀ H, EvD K (tOp (rI (fun _ j => 0 < j) fun i j => .int (i % j)) (tCB _ (tCons (tVar 0) tNil)) (tC (.int 2147483579))) [some (V.int c), some (.int t)] H (.int (c % 2147483579)) := fun H => ed_op (ed_cb (es_cons (V0 H) es_nil) rc_int) ed_int (rd_I (by decide))
  have fin : ∀ (x : Int) (tx : TE), (∀ H, EvD K tx [some (V.int c), some (.int t)] H (.int x)) → ∀ H1, Ex H H1 → EvS K (tCons tx (tCons (tOp (rI (fun _ j => 0 < j) fun i j => .int (i % j)) (tCB _ (tCons (tVar 0) tNil)) (tC (.int 2147483579))) (tCons (tVar 1) tNil))) [some (V.int c), some (.int t)] H1 [.int x, .int (c % 2147483579), .int t] := fun x tx hx H1 e1 => es_cons (hx H1) (es_cons (y H1) (es_cons (V1 H1) es_nil))
  have out : ∀ (x : Int) (vs : List V) (p : Addr) (H1 : Hp), Ex H H1 → H1 p = none → DpAll K H1 vs [.int x, .int (c % 2147483579), .int t] → Q (.ref p) (upd H1 p (.lst vs)) := fun x vs p H1 e1 hp hs => by
    obtain ⟨a, b, d, rfl, ha, hb, hd⟩ := len3 hs
    cases ha; cases hb; cases hd
    exact q p _ (e1.trans (Ex.new hp)) (ex_none e1 hp) ⟨x, _, t, upd_same, Int.emod_nonneg _ (by decide), by have := Int.emod_lt_of_pos c (b := 2147483579) (by decide); omega, ht, Int.le_refl _⟩
  refine sq_ifRet (et_test (ed_op (V0 H) (pw H) (rd_B0 (g := fun i j => decide (j ≤ i))))) (fun hb H1 e1 => ?_) fun hb H1 e1 => ?_
  · exact sd_retN (fin _ _ (fun H => ed_op (V0 H) (pw H) rd_I0) H1 e1) (by simp) fun vs p H2 e2 hp hs => out _ vs p H2 (e1.trans e2) hp hs
  · exact sd_retN (fin 0 _ (fun H => ed_int) H1 e1) (by simp) fun vs p H2 e2 hp hs => out _ vs p H2 (e1.trans e2) hp hs
/-! _law_pick: 0 _law_deck_here, 1 _law_limit, 2 _law_found, 3 _law_number -/
abbrev s__law_pick : Stmt := topS 40
theorem sc__law_pick : FnScope ["_law_deck_here", "_law_limit", "_law_found", "_law_number"] ["_law_deck_here", "_law_limit"] (defScope s__law_pick) := by
  exact ⟨rfl, rfl, rfl, by decide +kernel, rfl, by decide +kernel, by decide +kernel⟩

/-- xs[k] = e -/
theorem sq_sub {te : TE} {tz : TS} {D : Ends} {σ : L2.St} {H : Hp} {d : PD} {i : Nat} {p : Addr} {xs : List V} {c : Int} {j : Nat} (h : EvD K te σ H d) (hi : σ[i]? = some (some (.ref p))) (hp : H p = some (.lst xs)) (hj : ixN xs.length c = some j)
    (k : ∀ v H1, Ex H H1 → Dp K H1 v d → tz D σ (upd H1 p (.lst (xs.set j v)))) : tSeq (tAsg te (gSub (tVar i) (tC (.int c)) rSetL)) tz D σ H :=
  h H (Ex.refl H) _ fun v H1 e1 hv => ⟨_, hi, p, xs, c, j, rfl, rfl, e1 _ _ hp, hj, k v H1 e1 hv⟩
theorem cal__law_pick (T : Txt K mg aF) (F : DefK K mg "_law_pick" s__law_pick ["_law_deck_here", "_law_limit"]) : C8.Cal P w K mg base 1 "_law_pick" spPick [] := by
  refine cal_mk F sc__law_pick (fun vs H Q E ⟨_, _, _, e, _⟩ => by rw [e]; rfl) fun f cdv A outer s H vs Q E hr h => ?_
  have nd := sc__law_pick.nd
  obtain ⟨p, lim, Z, rfl, hl1, hl2, dk, hZ, q⟩ := h
  obtain ⟨x, y, z, hp, y0, y1, z0, z1⟩ := dk
  refine ⟨_, ((pss_cons (ps_if (pt_cmpR op_gt (pe_ix (ix_listK K rfl) (pv 0) pe_int (fun _ _ => rfl)) pe_int (nomark _)) 
      (pss_cons (ps_set (i := 2) nd rfl (Or.inl rfl) (pe_op op_mod (pe_callTy call_int1 (by rfl) T.b_int bb_int (pa_cons (pe_ix (ix_listK K rfl) (pv 0) pe_int (fun _ _ => rfl)) pa_nil)) (pv 1))) 
      (pss_cons (ps_asg (pe_op op_fdiv (pe_ix (ix_listK K rfl) (pv 0) pe_int (fun _ _ => rfl)) (pv 1)) (pg_sub (pv 0) pe_int set_list)) 
      (pss_one (ps_ret (pv 2))))) pss_nil) 
    (pss_cons (ps_asg (pe_op op_add (pe_ix (ix_listK K rfl) (pv 0) pe_int (fun _ _ => rfl)) pe_int) (pg_sub (pv 0) pe_int set_list)) 
    (pss_cons (ps_set (i := 3) nd rfl (Or.inl rfl) (pe_op op_mod (pe_callTy call_int1 (by rfl) T.b_int bb_int (pa_cons (pe_op op_pow (pe_callTy call_int1 (by rfl) T.b_int bb_int (pa_cons (pe_op op_add (pe_ix (ix_listK K rfl) (pv 0) pe_int (fun _ _ => rfl)) (pe_op op_mul pe_int (pe_ix (ix_listK K rfl) (pv 0) pe_int (fun _ _ => rfl)))) pa_nil)) pe_int) pa_nil)) pe_int)) 
    (pss_cons (ps_set (i := 2) nd rfl (Or.inl rfl) (pe_op op_fdiv (pe_op op_mod (pe_callTy call_int1 (by rfl) T.b_int bb_int (pa_cons (pe_op op_pow (pe_callTy call_int1 (by rfl) T.b_int bb_int (pa_cons (pe_op op_add (pv 3) (pe_op op_mul pe_int (pe_ix (ix_listK K rfl) (pv 0) pe_int (fun _ _ => rfl)))) pa_nil)) pe_int) pa_nil)) pe_int) pe_int)) 
    (pss_one (ps_ret (pe_op op_mod (pe_callTy call_int1 (by rfl) T.b_int bb_int (pa_cons (pv 2) pa_nil)) (pv 1))))))))), ?_⟩
  have dpk : ∀ {H' : Hp} {x y z : Int}, H' p = some (.lst [.int x, .int y, .int z]) → Dp K H' (.ref p) (.list [.int x, .int y, .int z]) := fun {H' x y z} h => .lst (.of h) (dpa_of_ints (ns := [x, y, z]))
  have ix : ∀ {H' : Hp} {σ : L2.St} {x y z r : Int} {j : Nat}, H' p = some (.lst [.int x, .int y, .int z]) → σ[0]? = some (some (.ref p)) → ([x, y, z] : List Int)[j]? = some r → EvD K (tOp (rIxL K) (tVar 0) (tC (.int (j : Nat)))) σ H' (.int r) := fun {H' σ x y z r j} h hσ hr =>
    ed_op (ed_var hσ (dpk h)) ed_int (rd_ixL (at_nat (by
      have := congrArg (Option.map PyData.int) hr
      rw [← List.getElem?_map] at this
      exact this)))
  refine sq_ifRet (b := decide (1 < x)) (et_test (ed_op (ix (j := 0) hp rfl rfl) (ed_int (i := 1)) (rd_B0 (g := fun i j => decide (j < i))))) (fun hb H1 e1 => ?_) fun hb H1 e1 => ?_
  · have hp1 := e1 _ _ hp
    refine sq_set (K := K) (ed_op (ed_cb (es_cons (ix (j := 0) hp1 rfl rfl) es_nil) rc_int) (ed_var (i := 1) rfl (.int lim)) (rd_I (g := fun i j => i % j) (by omega))) fun v2 H2 e2 hv2 => ?_
    have hp2 := e2 _ _ hp1
    cases hv2
    refine sq_sub (K := K) (ed_op (ix (j := 0) hp2 rfl rfl) (ed_var (i := 1) rfl (.int lim)) (rd_I (g := fun i j => i / j) ⟨by omega, by omega⟩)) rfl hp2 (j := 0) rfl fun v3 H3 e3 hv3 => ?_
    have hp3 := e3 _ _ hp2
    cases hv3
    refine sd_ret (K := K) (ed_var (i := 2) rfl (.int (x % lim))) fun v4 H4 e4 hv4 => ?_
    cases hv4
    refine q _ H4 (Int.emod_nonneg _ (by omega)) (Int.emod_lt_of_pos _ (by omega)) (fun b o hb hh => ?_) ⟨_, y, z, e4 _ _ upd_same, y0, y1, z0, by omega⟩
    refine e4 _ _ ?_
    rw [upd_ne hb]
    exact e3 _ _ (e2 _ _ (e1 _ _ hh))
  · have hp1 := e1 _ _ hp
    refine sq_sub (K := K) (ed_op (ix (j := 2) hp1 rfl rfl) (ed_int (i := 1)) (rd_I0 (g := fun i j => i + j))) rfl hp1 (j := 2) rfl fun v2 H2 e2 hv2 => ?_
    cases hv2
    generalize hH3 : upd H2 p (.lst ([V.int x, .int y, .int z].set 2 (.int (z + 1)))) = H3
    have hp3 : H3 p = some (.lst [.int x, .int y, .int (z + 1)]) := by rw [← hH3]; exact upd_same
    have x3 : Xb p H H3 := fun b o hb hh => by rw [← hH3, upd_ne hb]; exact e2 _ _ (e1 _ _ hh)
    refine sq_set (K := K) (ed_op (ed_cb (es_cons (ed_op (ed_cb (es_cons (ed_op (ix (j := 1) hp3 rfl rfl) (ed_op (ed_int (i := 15485867)) (ix (j := 2) hp3 rfl rfl) (rd_I (g := fun i j => i * j) (.inl ⟨by omega, by omega⟩))) (rd_I0 (g := fun i j => i + j))) es_nil) rc_int) (ed_int (i := 5)) (rd_I (g := fun i j => i ^ j.toNat) ⟨by omega, by omega, by omega⟩)) es_nil) rc_int) (ed_int (i := 2147483647)) (rd_I (g := fun i j => i % j) (by omega))) fun v4 H4 e4 hv4 => ?_
    cases hv4
    have hp4 := e4 _ _ hp3
    have n0 : 0 ≤ (y + 15485867 * (z + 1)) ^ (5 : Int).toNat % 2147483647 := Int.emod_nonneg _ (by decide)
    have n1 : (y + 15485867 * (z + 1)) ^ (5 : Int).toNat % 2147483647 < 2147483647 := Int.emod_lt_of_pos _ (by decide)
    generalize (y + 15485867 * (z + 1)) ^ (5 : Int).toNat % 2147483647 = nn at n0 n1
    refine sq_set (K := K) (ed_op (ed_op (ed_cb (es_cons (ed_op (ed_cb (es_cons (ed_op (ed_var (i := 3) rfl (.int nn)) (ed_op (ed_int (i := 7919)) (ix (j := 2) hp4 rfl rfl) (rd_I (g := fun i j => i * j) (.inl ⟨by omega, by omega⟩))) (rd_I0 (g := fun i j => i + j))) es_nil) rc_int) (ed_int (i := 3)) (rd_I (g := fun i j => i ^ j.toNat) ⟨by omega, by omega, by omega⟩)) es_nil) rc_int) (ed_int (i := 2147483629)) (rd_I (g := fun i j => i % j) (by omega))) (ed_int (i := 32)) (rd_I (g := fun i j => i / j) ⟨by omega, by omega⟩)) fun v5 H5 e5 hv5 => ?_
    cases hv5
    have hp5 := e5 _ _ hp4
    generalize (nn + 7919 * (z + 1)) ^ (3 : Int).toNat % 2147483629 / 32 = ff
    refine sd_ret (K := K) (ed_op (ed_cb (es_cons (ed_var (i := 2) rfl (.int ff)) es_nil) rc_int) (ed_var (i := 1) rfl (.int lim)) (rd_I (g := fun i j => i % j) (by omega))) fun v6 H6 e6 hv6 => ?_
    cases hv6
    exact q _ H6 (Int.emod_nonneg _ (by omega)) (Int.emod_lt_of_pos _ (by omega)) (x3.trans (.of ((e4.trans e5).trans e6))) ⟨_, y, _, e6 _ _ hp5, y0, y1, by omega, by omega⟩
/-! ### a random rule -/
def EvMS (K : PySem.W.Frag) (p : Addr) (tl : TA) (σ : L2.St) (H : Hp) (Z n : Int) (R : List PD → Prop) : Prop := ∀ H1, Xb p H H1 → Deck H1 p Z → ∀ Q : List V → Hp → Prop, (∀ vs ds H2, Xb p H1 H2 → Deck H2 p (Z + n) → DpAll K H2 vs ds → R ds → Q vs H2) → tl σ H1 Q
theorem ems_nil {p : Addr} {σ : L2.St} {H : Hp} {Z : Int} : EvMS K p tNil σ H Z 0 (· = []) := fun H1 a dk Q q => q [] [] H1 .refl (by rw [Int.add_zero]; exact dk) .nil rfl
theorem ems_cons {p : Addr} {σ : L2.St} {H : Hp} {Z n1 n2 : Int} {te : TE} {tl : TA} {P : PD → Prop} {R : List PD → Prop} (h : EvM K p te σ H Z n1 P) (h2 : EvMS K p tl σ H (Z + n1) n2 R) (ht : ∀ d, P d → tupOnly d = true) : EvMS K p (tCons te tl) σ H Z (n1 + n2) (fun ds => ∃ d ds', ds = d :: ds' ∧ P d ∧ R ds') := fun H1 a dk Q q =>
  h H1 a dk _ fun v d H2 a2 dk2 hv pd => h2 H2 (a.trans a2) dk2 _ fun vs ds H3 a3 dk3 hs hR => q (v :: vs) (d :: ds) H3 (a2.trans a3) (by rw [← Int.add_assoc]; exact dk3) (.cons (dp_b (a3.b dk2) _ _ (ht d pd) hv) hs) ⟨d, ds, rfl, pd, hR⟩
theorem em_tup {p : Addr} {σ : L2.St} {H : Hp} {Z n : Int} {tl : TA} {R : List PD → Prop} (h : EvMS K p tl σ H Z n R) (hl : ∀ ds, R ds → ds.length ≤ 100000) : EvM K p (tTup tl) σ H Z n (fun d => ∃ ds, d = .tuple ds ∧ R ds) := fun H1 a dk Q q =>
  h H1 a dk _ fun vs ds H2 a2 dk2 hs hR => ⟨Evl.sz_of (by rw [hs.length]; exact hl ds hR), newT hs fun z H3 e3 hz => q z _ H3 (a2.trans (.of e3)) (dk2.ex e3) hz ⟨ds, rfl, hR⟩⟩
theorem em_le {p : Addr} {σ : L2.St} {H : Hp} {Z n m : Int} {te : TE} {P P' : PD → Prop} (h : EvM K p te σ H Z n P) (hn : n ≤ m) (hP : ∀ d, P d → P' d) : EvM K p te σ H Z m P' := fun H1 a dk Q q => h H1 a dk Q fun v d H2 a2 dk2 hv pd => q v d H2 a2 (dk2.le (by omega)) hv (hP d pd)
theorem em_if {p : Addr} {σ : L2.St} {H : Hp} {Z n m : Int} {tc ta tb : TE} {P P' : PD → Prop} (hc : EvM K p tc σ H Z n P) (hb : ∀ d, P d → ∃ b : Bool, d = .bool b) (h1 : EvM K p ta σ H (Z + n) m P') (h2 : EvM K p tb σ H (Z + n) m P') : EvM K p (tIf (tTest tc) ta tb) σ H Z (n + m) P' := fun H1 a dk Q q =>
  hc H1 a dk _ fun v d H2 a2 dk2 hv pd => by
    obtain ⟨b, rfl⟩ := hb d pd
    cases hv
    refine ⟨b, rfl, ?_⟩
    cases b with
    | true =>
      show ta σ H2 Q
      exact h1 H2 (a.trans a2) dk2 Q fun v d H3 a3 dk3 hv pd => q v d H3 (a2.trans a3) (by rw [← Int.add_assoc]; exact dk3) hv pd
    | false =>
      show tb σ H2 Q
      exact h2 H2 (a.trans a2) dk2 Q fun v d H3 a3 dk3 hv pd => q v d H3 (a2.trans a3) (by rw [← Int.add_assoc]; exact dk3) hv pd
theorem sq_raw {te : TE} {i : Nat} {tz : TS} {D : Ends} {σ : L2.St} {H : Hp} (h : te σ H fun x H1 => tz D (σ.set i (some x)) H1) : tSeq (tAsg te (gName i)) tz D σ H := h
theorem sm_set {p : Addr} {Z n : Int} {P : PD → Prop} {te : TE} {i : Nat} {tz : TS} {D : Ends} {σ : L2.St} {H : Hp} (h : EvM K p te σ H Z n P) (dk : Deck H p Z) (k : ∀ v d H1, Xb p H H1 → Deck H1 p (Z + n) → Dp K H1 v d → P d → tz D (σ.set i (some v)) H1) : tSeq (tAsg te (gName i)) tz D σ H := h H .refl dk _ k
/-! _law_rule: 0 _law_deck_here, 1 _law_limit, 2 _law_yes, 3 _law_turn -/
abbrev s__law_rule : Stmt := topS 48
theorem sc__law_rule : FnScope ["_law_deck_here", "_law_limit", "_law_yes", "_law_turn"] ["_law_deck_here"] (defScope s__law_rule) := by
  exact ⟨rfl, rfl, rfl, by decide +kernel, rfl, by decide +kernel, by decide +kernel⟩

def spRule (K : PySem.W.Frag) : Sp := fun vs H Q _ => ∃ (p : Addr) (Z : Int), vs = [.ref p] ∧ Deck H p Z ∧ Z ≤ 999999000 ∧ ∀ r v H', Rule.Ok r → Xb p H H' → Deck H' p (Z + 8) → Dp K H' v (ruleD r) → Q v H'
def limP (d : PD) : Prop := d = .none ∨ ∃ r : Int, d = .int (1 + r) ∧ 0 ≤ r ∧ r < 12
def boolP (d : PD) : Prop := ∃ b : Bool, d = .bool b
theorem boolP_tup : ∀ d, boolP d → tupOnly d = true := fun d ⟨b, e⟩ => by rw [e]; rfl
theorem below_tup {lim : Int} : ∀ d, below lim d → tupOnly d = true := fun d ⟨b, e, _⟩ => by rw [e]; rfl
theorem plus_tup {c lim : Int} : ∀ d, (∃ r : Int, d = .int (c + r) ∧ 0 ≤ r ∧ r < lim) → tupOnly d = true := fun d ⟨b, e, _⟩ => by rw [e]; rfl
theorem limP_tup : ∀ d, limP d → tupOnly d = true := fun d h => by
  rcases h with rfl | ⟨r, rfl, _⟩ <;> rfl
theorem cal__law_rule (T : Txt K mg aF) (F : DefK K mg "_law_rule" s__law_rule ["_law_deck_here"]) (C__law_pick : C8.Cal P w K mg base 1 "_law_pick" spPick []) : C8.Cal P w K mg base 2 "_law_rule" (spRule K) [] := by
  refine cal_mk F sc__law_rule (fun vs H Q E ⟨_, _, e, _⟩ => by rw [e]; rfl) fun f cdv A outer s H vs Q E hr h => ?_
  have nd := sc__law_rule.nd
  have hr1 := hr
  obtain ⟨p, Z, rfl, dk, hZ, q⟩ := h
  refine ⟨_, ((pss_cons (ps_set (i := 1) nd rfl (Or.inl rfl) (pe_ifExp (pt_cmpR op_gt (C8.pe_c C__law_pick hr1 (by decide) (by rfl) (pa_cons (pv 0) (pa_cons pe_int pa_nil))) pe_int (nomark _)) pe_non (pe_op op_add pe_int (C8.pe_c C__law_pick hr1 (by decide) (by rfl) (pa_cons (pv 0) (pa_cons pe_int pa_nil)))))) 
    (pss_cons (ps_setLc (i := 2) (own := [("_law_turn", 3)]) rfl nd rfl rfl (sw_true rfl rfl rfl (by decide +kernel)) (pi_range1 (by rfl) T.b_range (pa_cons pe_int pa_nil)) (blkOk_by (own := [("_law_turn", 3)]) (by kernel_rfl)) (fun _ _ _ _ _ => (pg_name (i := 3) nd rfl (Or.inl rfl))) (fun _ _ _ _ _ => pts_nil) (fun _ _ _ _ _ => (pe_cmpR op_eq (C8.pe_c C__law_pick hr1 (by decide) (by rfl) (pa_cons (pv 0) (pa_cons pe_int pa_nil))) pe_int (nomark _)))) 
    (pss_one (ps_ret (pe_tup (pa_cons (pe_op op_add pe_int (C8.pe_c C__law_pick hr1 (by decide) (by rfl) (pa_cons (pv 0) (pa_cons pe_int pa_nil)))) (pa_cons (pe_ix (ix_listK K rfl) (pv 2) pe_int (fun _ _ => rfl)) (pa_cons (pe_ix (ix_listK K rfl) (pv 2) pe_int (fun _ _ => rfl)) (pa_cons (pe_ix (ix_listK K rfl) (pv 2) pe_int (fun _ _ => rfl)) (pa_cons (C8.pe_c C__law_pick hr1 (by decide) (by rfl) (pa_cons (pv 0) (pa_cons pe_int pa_nil))) (pa_cons (pv 1) (pa_cons (pe_op op_add pe_int (C8.pe_c C__law_pick hr1 (by decide) (by rfl) (pa_cons (pv 0) (pa_cons pe_int pa_nil)))) pa_nil))))))))))))), ?_⟩
  have pk : ∀ {σ : L2.St} {H : Hp} {Z' lim : Int} {E : XK}, σ[0]? = some (some (.ref p)) → 1 ≤ lim → lim < 1000000 → Z' ≤ 1000000000 → EvM K p (tCall spPick [] E (tCons (tVar 0) (tCons (tC (.int lim)) tNil))) σ H Z' 1 (below lim) := fun h a b c => em_pick h (fun _ => ed_int) a b c
  have gt : EvM K p (tOp (rI0 fun i j => .bl (decide (j < i))) (tCall spPick [] C8.E0 (tCons (tVar 0) (tCons (tC (.int 3)) tNil))) (tC (.int 0))) [some (.ref p), none, none, none] H Z 1 boolP := by
    have := em_op (n1 := 1) (n2 := 0) (P2 := fun d => d = .int 0) (P3 := boolP) (r := rI0 fun i j => .bl (decide (j < i))) (pk (σ := [some (.ref p), none, none, none]) (H := H) (Z' := Z) (lim := 3) (E := C8.E0) rfl (by decide) (by decide) (by omega)) (em_pure (fun H1 _ => ed_int (i := 0)) rfl) below_tup
      fun d e hd he => by
        obtain ⟨r, rfl, a, b⟩ := hd
        subst he
        exact ⟨_, rd_B0 (g := fun i j => decide (j < i)), _, rfl⟩
    rw [Int.add_zero] at this
    exact this
  have lim : EvM K p (tIf (tTest (tOp (rI0 fun i j => .bl (decide (j < i))) (tCall spPick [] C8.E0 (tCons (tVar 0) (tCons (tC (.int 3)) tNil))) (tC (.int 0)))) (tC .non) (tOp (rI0 fun i j => .int (i + j)) (tC (.int 1)) (tCall spPick [] C8.E0 (tCons (tVar 0) (tCons (tC (.int 12)) tNil))))) [some (.ref p), none, none, none] H Z (1 + 1) limP :=
    em_if gt (fun d h => h) (em_le (em_pure (P := fun d => d = .none) (fun _ _ => ed_non) rfl) (by decide) fun d h => .inl h) (em_le (em_plus (pk rfl (by decide) (by decide) (by omega))) (Int.le_refl _) fun d h => .inr h)
  refine sm_set lim dk fun v1 d1 H1 a1 dk1 hv1 hd1 => ?_
  refine sq_raw (lc_m (K := K) (p := p) (H := H1) (Z := Z + (1 + 1)) (m := 0) (N := 3) (wi := iRng1 (tCons (tC (.int 3)) tNil)) (j := 3) (vs := [3]) (σ := [some (.ref p), some v1, none, none]) (P := boolP) (Pn := fun n => n = 3) (fun H2 a2 dk2 R hR => ⟨3, rfl, by decide, by decide, hR 3 H2 rfl .refl (by rw [Int.add_zero]; exact dk2)⟩) (fun n h => by omega) (by decide) (fun _ => rfl) boolP_tup
    (fun k x H2 a2 hk => em_is (pk (lim := 2) rfl (by decide) (by decide) (by omega))) .refl dk1 fun q2 ds2 H2 hl2 hP2 a2 dk2 hA2 hq2 => ?_)
  obtain ⟨b1, b2, b3, rfl⟩ : ∃ b1 b2 b3 : Bool, ds2 = [.bool b1, .bool b2, .bool b3] := by
    match ds2, hl2, hP2 with
    | [x1, x2, x3], _, hP =>
      obtain ⟨b1, e1⟩ := hP x1 (by simp)
      obtain ⟨b2, e2⟩ := hP x2 (by simp)
      obtain ⟨b3, e3⟩ := hP x3 (by simp)
      exact ⟨b1, b2, b3, by rw [e1, e2, e3]⟩
  have hv1' : Dp K H2 v1 d1 := dp_b (a2.b dk1) _ _ (limP_tup _ hd1) hv1
  have yes : ∀ (j : Nat) (b : Bool) (Z' : Int), ([PyData.bool b1, .bool b2, .bool b3] : List PD)[j]? = some (.bool b) → EvM K p (tOp (rIxL K) (tVar 2) (tC (.int (j : Nat)))) [some (.ref p), some v1, some (.ref q2), none] H2 Z' 0 (· = .bool b) := fun j b Z' hj =>
    em_pure (d := .bool b) (fun H3 a3 => ed_op (ed_var (i := 2) rfl (by
      obtain ⟨acc, x1, x2⟩ := hA2
      exact Acc.dp ⟨acc, a3 _ _ hq2 x1, dpa_b (a3.b dk2) _ _ rfl x2⟩)) ed_int (rd_ixL (at_nat hj))) rfl
  have eqP : ∀ b : Bool, ∀ d : PD, d = .bool b → tupOnly d = true := fun b d e => by rw [e]; rfl
  have fin := em_tup (ems_cons (em_plus (pk (σ := [some (.ref p), some v1, some (.ref q2), none]) (H := H2) (Z' := Z + 5) (lim := 3) (E := C8.E0) rfl (by decide) (by decide) (by omega)) (c := 1)) (ems_cons (yes 0 b1 _ rfl) (ems_cons (yes 1 b2 _ rfl) (ems_cons (yes 2 b3 _ rfl) (ems_cons (pk (lim := 4) (E := C8.E0) rfl (by decide) (by decide) (by omega)) (ems_cons (em_var (i := 1) ⟨_, dk2⟩ rfl hv1' (limP_tup _ hd1) hd1 (P := limP)) (ems_cons (em_plus (pk (lim := 3) (E := C8.E0) rfl (by decide) (by decide) (by omega)) (c := 1)) ems_nil plus_tup) limP_tup) below_tup) (eqP b3)) (eqP b2)) (eqP b1)) plus_tup)
    (fun ds h => by
      obtain ⟨_, _, rfl, _, _, _, rfl, _, _, _, rfl, _, _, _, rfl, _, _, _, rfl, _, _, _, rfl, _, _, _, rfl, _, rfl⟩ := h
      simp)
  refine fin H2 .refl (dk2.le (by omega)) _ fun v d H3 a3 dk3 hv hd => ?_
  obtain ⟨_, rfl, _, _, rfl, ⟨r1, rfl, r10, r11⟩, _, _, rfl, rfl, _, _, rfl, rfl, _, _, rfl, rfl, _, _, rfl, ⟨r2, rfl, r20, r21⟩, dl, _, rfl, hlim, _, _, rfl, ⟨r3, rfl, r30, r31⟩, rfl⟩ := hd
  have hx : ∃ o : Option Int, optD o = dl ∧ ∀ x, o = some x → 1 ≤ x ∧ x ≤ 12 := by
    rcases hlim with e | ⟨r, e, r0, r1⟩
    · exact ⟨none, e.symm, fun x h => by cases h⟩
    · exact ⟨some (1 + r), e.symm, fun x h => by cases h; omega⟩
  obtain ⟨o, ho, hop⟩ := hx
  refine q ⟨1 + r1, b1, b2, b3, r2, o, 1 + r3⟩ v H3 ⟨by show 1 ≤ 1 + r1; omega, by show 1 + r1 ≤ 3; omega, r20, by show r2 ≤ 3; omega, hop, by show 1 ≤ 1 + r3; omega, by show 1 + r3 ≤ 3; omega⟩ ((a1.trans a2).trans a3) (dk3.le (by omega)) ?_
  show Dp K H3 v (.tuple [.int (1 + r1), .bool b1, .bool b2, .bool b3, .int r2, optD o, .int (1 + r3)])
  rw [ho]
  exact hv

/-! ### a random row -/
theorem glue0 (es : List Evt) : Txt.join "" (es.map evS) = rowS es := by
  show Builtin.Str.glued "" (es.map evS) = _
  rw [StrLaws.glued_eq_join]
  induction es with
  | nil => rfl
  | cons e es ih =>
    have hc : ∀ x : Str, (⟨#[e.cp]⟩ : Str) ++ ("" : Str) ++ x = ⟨(e.cp :: x.cps.toList).toArray⟩ := fun x => by
      show Str.mk ((#[e.cp] ++ (#[] : Array Nat)) ++ x.cps) = _
      congr 1
      apply Array.toList_inj.mp
      simp
    cases es with
    | nil =>
      show evS e = rowS [e]
      rw [evS_cp]
      rfl
    | cons e2 es =>
      show evS e ++ "" ++ Str.join "" ((e2 :: es).map evS) = _
      rw [ih, evS_cp, hc]
      rfl
/-! _law_song: 0 _law_deck_here, 1 _law_most, 2 _law_signs, 3 _law_turn -/
abbrev s__law_song : Stmt := topS 49
theorem sc__law_song : FnScope ["_law_deck_here", "_law_most", "_law_signs", "_law_turn"] ["_law_deck_here", "_law_most"] (defScope s__law_song) := by
  exact ⟨rfl, rfl, rfl, by decide +kernel, rfl, by decide +kernel, by decide +kernel⟩

def spSong : Sp := fun vs H Q _ => ∃ (p : Addr) (most Z : Int), vs = [.ref p, .int most] ∧ 0 ≤ most ∧ most ≤ 100 ∧ Deck H p Z ∧ Z ≤ 999999000 ∧ ∀ es H', es.length ≤ most.toNat → Xb p H H' → Deck H' p (Z + (most + 2)) → Q (.str (rowS es)) H'
def evP (d : PD) : Prop := ∃ e : Evt, d = evD e
theorem evP_tup : ∀ d, evP d → tupOnly d = true := fun d ⟨b, e⟩ => by rw [e]; rfl
theorem evP_all : ∀ {ds : List PD}, (∀ d ∈ ds, evP d) → ∃ es : List Evt, ds = es.map evD
  | [], _ => ⟨[], rfl⟩
  | d :: ds, h => by
    obtain ⟨e, he⟩ := h d List.mem_cons_self
    obtain ⟨es, hes⟩ := evP_all (ds := ds) fun d hd => h d (List.mem_cons_of_mem _ hd)
    exact ⟨e :: es, by rw [he, hes]; rfl⟩
theorem dpa_evs {H : Hp} {acc : List V} {es : List Evt} (h : DpAll K H acc (es.map evD)) : acc = (es.map evS).map V.str := by
  have : es.map evD = (es.map evS).map PyData.str := by rw [List.map_map]; rfl
  rw [this] at h
  exact dpa_strs h
theorem sd_joinM {p : Addr} {Z m : Int} {j : Nat} {vs : List Nat} {N : Nat} {Pn : Nat → Prop} {wi : TI} {te : TE} {σ : L2.St} {H : Hp} {D : Ends} (dk : Deck H p Z)
    (hwi : ∀ H1, Xb p H H1 → Deck H1 p Z → ∀ R : It → Hp → Prop, (∀ n H2, Pn n → Xb p H1 H2 → Deck H2 p (Z + m) → R (Itr 0 n) H2) → wi σ H1 R) (hPn : ∀ n, Pn n → n ≤ N) (hN : N ≤ 1000) (hw : ∀ x, wipe ((wipe σ vs).set j (some x)) vs = wipe σ vs)
    (hb : ∀ (k : Nat) x H1, Xb p H H1 → k < N → EvM K p te ((wipe σ vs).set j (some x)) H1 (Z + m + k) 1 evP)
    (q : ∀ es H2, Pn es.length → Xb p H H2 → Deck H2 p (Z + m + N) → D.rt (.str (rowS es)) H2) :
    tRet (tM1 (fun x xs H Q => ∃ a p, ∃ ys : List Str, x = .str a ∧ xs = [.ref p] ∧ (SqL K H p (ys.map V.str) ∨ SqT K H p (ys.map V.str)) ∧ (ys.map (·.length)).sum + ys.length * a.length ≤ 16777216 ∧ Q (.str (Txt.join a ys)) H) (tC (.str "")) (tLc wi (gName j) tYes te vs)) D σ H :=
  ⟨⟨_, rfl⟩, lc_m hwi hPn hN hw evP_tup hb .refl dk fun q4 ds H2 hn hP a2 dk2 hA hne => by
    obtain ⟨es, rfl⟩ := evP_all hP
    obtain ⟨acc, h1, h2⟩ := hA
    have := dpa_evs h2
    subst this
    rw [List.length_map] at hn
    have hz : ((es.map evS).map (·.length)).sum ≤ es.length := by
      clear hP h1 h2 hn
      induction es with
      | nil => exact Nat.le_refl _
      | cons e es ih =>
        have : (evS e).length = 1 := by rw [evS_cp]; rfl
        rw [List.map_cons, List.map_cons, List.sum_cons, this, List.length_cons]
        omega
    have hes := hPn _ hn
    refine ⟨_, q4, es.map evS, rfl, rfl, .inl (.of h1), by show _ + _ * 0 ≤ _; omega, ?_⟩
    rw [glue0]
    exact q es H2 hn a2 dk2⟩
theorem em_ixL {p : Addr} {σ : L2.St} {H : Hp} {Z n : Int} {tl : TA} {tb : TE} {dsl : List PD} {P2 P3 : PD → Prop} (h : ∀ H1, EvS K tl σ H1 dsl) (ht : tupOnlyAll dsl = true) (hn : dsl.length ≤ 100000) (hb : EvM K p tb σ H Z n P2) (hP : ∀ e, P2 e → ∃ r d, e = .int r ∧ atI dsl r = some d ∧ P3 d) :
    EvM K p (tOp (rIxL K) (tLst tl) tb) σ H Z n P3 := fun H1 a dk Q q =>
  h H1 H1 (Ex.refl H1) _ fun vs H2 e2 hs => ⟨Evl.sz_of (by rw [hs.length]; exact hn), fun q4 hq4 => by
    have dk2 := dk.ex e2
    have hne := dk2.ne hq4
    refine hb _ ((a.trans (.of e2)).trans (.of (Ex.new hq4))) (dk2.upd hne) _ fun v d H3 a3 dk3 hv hd => ?_
    obtain ⟨r, f, rfl, hat, hf⟩ := hP d hd
    have hl : Dp K H3 (.ref q4) (.list dsl) := .lst (.of (a3 _ _ hne upd_same)) (dpa_b (a3.b (dk2.upd hne)) _ _ ht (Dpam hs (Ex.new hq4)))
    exact rd_ixL hat H3 _ v hl hv Q fun z H4 e4 hz => q z f H4 (((Xb.of e2).trans (.of (Ex.new hq4))).trans (a3.trans (.of e4))) (dk3.ex e4) hz hf⟩
theorem cal__law_song (T : Txt K mg aF) (F : DefK K mg "_law_song" s__law_song ["_law_deck_here", "_law_most"]) (C__law_pick : C8.Cal P w K mg base 1 "_law_pick" spPick []) : C8.Cal P w K mg base 2 "_law_song" spSong [] := by
  refine cal_mk F sc__law_song (fun vs H Q E ⟨_, _, _, e, _⟩ => by rw [e]; rfl) fun f cdv A outer s H vs Q E hr h => ?_
  have nd := sc__law_song.nd
  have hr1 := hr
  obtain ⟨p, most, Z, rfl, hm0, hm1, dk, hZ, q⟩ := h
  refine ⟨_, ((pss_cons (ps_set (i := 2) nd rfl (Or.inr rfl) (pe_ix (ix_listK K rfl) (pe_lst (pa_cons pe_str (pa_cons pe_str (pa_cons pe_str (pa_cons pe_str pa_nil))))) (C8.pe_c C__law_pick hr1 (by decide) (by rfl) (pa_cons (pv 0) (pa_cons pe_int pa_nil))) (fun _ _ => rfl))) 
    (pss_one (ps_ret (pe_join pe_str (pe_lc (own := [("_law_turn", 3)]) rfl nd (pi_range1 (by rfl) T.b_range (pa_cons (C8.pe_c C__law_pick hr1 (by decide) (by rfl) (pa_cons (pv 0) (pa_cons (pe_op op_add (pv 1) pe_int) pa_nil))) pa_nil)) (blkOk_by (own := [("_law_turn", 3)]) (by kernel_rfl)) (fun _ _ _ _ _ => (pg_name (i := 3) nd rfl (Or.inl rfl))) (fun _ _ _ _ _ => pts_nil) (fun _ _ _ _ _ => (pe_ix ix_str (pv 2) (C8.pe_c C__law_pick hr1 (by decide) (by rfl) (pa_cons (pv 0) (pa_cons (pe_callB (call_lenK K rfl) (by rfl) T.b_len bb_len (pa_cons (pv 2) pa_nil)) pa_nil))) (fun _ _ => rfl))))))))), ?_⟩
  have pk : ∀ {te : TE} {σ : L2.St} {H : Hp} {Z' lim : Int} {E : XK}, σ[0]? = some (some (.ref p)) → (∀ H1, EvD K te σ H1 (.int lim)) → 1 ≤ lim → lim < 1000000 → Z' ≤ 1000000000 → EvM K p (tCall spPick [] E (tCons (tVar 0) (tCons te tNil))) σ H Z' 1 (below lim) := fun h hl a b c => em_pick h hl a b c
  have songs : ∀ (r : Int), 0 ≤ r → r < 4 → ∃ sg : List Evt, 1 ≤ sg.length ∧ sg.length ≤ 5 ∧ atI [PyData.str "-ab", .str "-aabb", .str "aab", .str "-a"] r = some (rowD sg) := fun r r0 r1 => by
    have : r = 0 ∨ r = 1 ∨ r = 2 ∨ r = 3 := by omega
    rcases this with rfl | rfl | rfl | rfl
    · exact ⟨[.d, .a, .b], by decide, by decide, by rfl⟩
    · exact ⟨[.d, .a, .a, .b, .b], by decide, by decide, by rfl⟩
    · exact ⟨[.a, .a, .b], by decide, by decide, by rfl⟩
    · exact ⟨[.d, .a], by decide, by decide, by rfl⟩
  have hsig : EvM K p (tOp (rIxL K) (tLst (tCons (tC (.str "-ab")) (tCons (tC (.str "-aabb")) (tCons (tC (.str "aab")) (tCons (tC (.str "-a")) tNil))))) (tCall spPick [] C8.E0 (tCons (tVar 0) (tCons (tC (.int 4)) tNil)))) [some (.ref p), some (.int most), none, none] H Z 1 (fun d => ∃ sg : List Evt, d = rowD sg ∧ 1 ≤ sg.length ∧ sg.length ≤ 5) :=
    em_ixL (fun H1 => es_cons ed_str (es_cons ed_str (es_cons ed_str (es_cons ed_str es_nil)))) rfl (by simp) (pk (lim := 4) rfl (fun _ => ed_int) (by decide) (by decide) (by omega)) fun e he => by
      obtain ⟨r, rfl, r0, r1⟩ := he
      obtain ⟨sg, sl1, sl5, hat⟩ := songs r r0 r1
      exact ⟨r, _, rfl, hat, sg, rfl, sl1, sl5⟩
  refine sm_set hsig dk fun vs d H1 a1 dk1 hv hd => ?_
  obtain ⟨sg, rfl, sl1, sl5⟩ := hd
  cases hv
  have lenR : (rowS sg).length = sg.length := by
    show (sg.map Evt.cp).toArray.size = _
    simp
  have lenE : ∀ {σ : L2.St} {H : Hp}, σ[2]? = some (some (.str (rowS sg))) → EvD K (tCB (rLenS K) (tCons (tVar 2) tNil)) σ H (.int (sg.length : Nat)) := fun h => (ed_cb (es_cons (ed_var (i := 2) h (.str (rowS sg))) es_nil) (rc_lenS (by rw [lenR, sizeLine_eq]; omega))).is (by rw [lenR])
  have moreE : ∀ {σ : L2.St} {H : Hp}, σ[1]? = some (some (.int most)) → EvD K (tOp (rI0 fun i j => .int (i + j)) (tVar 1) (tC (.int 1))) σ H (.int (most + 1)) := fun h => ed_op (ed_var (i := 1) h (.int most)) ed_int rd_I0
  have body : ∀ (σ : L2.St) (H : Hp) (Z' : Int), σ[0]? = some (some (.ref p)) → σ[2]? = some (some (.str (rowS sg))) → (∃ Z0, Deck H p Z0) → Z' ≤ 1000000000 → EvM K p (tOp rIxS (tVar 2) (tCall spPick [] C8.E0 (tCons (tVar 0) (tCons (tCB (rLenS K) (tCons (tVar 2) tNil)) tNil)))) σ H Z' 1 evP := fun σ H Z' h0 h2 hk hz => by
    have := em_op (n1 := 0) (n2 := 1) (r := rIxS) (P1 := fun d => d = .str (rowS sg)) (P3 := evP) (em_var (Z := Z') hk h2 (.str (rowS sg)) rfl rfl) (pk (lim := (sg.length : Nat)) (E := C8.E0) h0 (fun _ => lenE h2) (by omega) (by omega) (by omega)) (fun d e => by rw [e]; rfl) fun d e hd he => by
      obtain ⟨r, rfl, r0, r1⟩ := he
      subst hd
      obtain ⟨n, rfl⟩ : ∃ n : Nat, r = (n : Int) := ⟨r.toNat, by omega⟩
      have hj : n < sg.length := by omega
      refine ⟨evD sg[n], ?_, _, rfl⟩
      have hat : atI (rowS sg).cps.toList (n : Int) = some sg[n].cp := by
        have hl : (rowS sg).cps.toList = sg.map Evt.cp := rfl
        rw [hl]
        show (ixN (sg.map Evt.cp).length (n : Int)).bind _ = _
        rw [Evl.ixN_nat (by rw [List.length_map]; exact hj)]
        show (sg.map Evt.cp)[n]? = _
        rw [List.getElem?_map, List.getElem?_eq_getElem hj]
        rfl
      have := rd_ixS (K := K) (s := rowS sg) (i := (n : Int)) (by rw [lenR, sizeLine_eq]; omega) hat
      show RD K rIxS (.str (rowS sg)) (.int n) (.str (evS sg[n]))
      rw [evS_cp]
      exact this
    rw [Int.zero_add] at this
    exact this
  refine sd_joinM (K := K) (j := 3) (vs := [3]) (wi := iRng1 (tCons (tCall spPick [] C8.E0 (tCons (tVar 0) (tCons (tOp (rI0 fun i j => .int (i + j)) (tVar 1) (tC (.int 1))) tNil))) tNil)) (p := p) (Z := Z + 1) (m := 1) (N := most.toNat) (Pn := fun n => n ≤ most.toNat) dk1 (fun H2 a2 dk2 R hR => ?_) (fun n h => h) (by omega) (fun _ => rfl) (fun k x H2 a2 hk => ?_) fun es H2 hn a2 dk2 => ?_
  · refine pk (te := tOp (rI0 fun i j => .int (i + j)) (tVar 1) (tC (.int 1))) (lim := most + 1) (H := H2) (Z' := Z + 1) (E := C8.E0) rfl (fun _ => moreE rfl) (by omega) (by omega) (by omega) H2 .refl dk2 _ fun v d H3 a3 dk3 hv hd => ?_
    obtain ⟨r, rfl, r0, r1⟩ := hd
    cases hv
    exact ⟨r, rfl, by omega, by omega, hR r.toNat H3 (by omega) a3 dk3⟩
  · exact (body _ H1 _ rfl rfl ⟨_, dk1⟩ (by omega)).mono a2
  · exact q es H2 hn (a1.trans a2) (dk2.le (by omega))
/-! ### the law's step -/
/-! _law_weight: 0 _law_r, 1 _law_line, 2 _law_one -/
abbrev s__law_weight : Stmt := topS 45
theorem sc__law_weight : FnScope ["_law_r", "_law_line", "_law_one"] ["_law_r", "_law_line"] (defScope s__law_weight) := by
  exact ⟨rfl, rfl, rfl, by decide +kernel, rfl, by decide +kernel, by decide +kernel⟩

def R_weight (ds : List PD) (d : PD) : Prop := ∃ r l, Rule.Ok r ∧ l.length ≤ 1000 ∧ ds = [ruleD r, .list (l.map .int)] ∧ d = .int (pagesOf r l)
theorem cal__law_weight (T : Txt K mg aF) (F : DefK K mg "_law_weight" s__law_weight ["_law_r", "_law_line"]) : C8.Cal P w K mg base 1 "_law_weight" (PF K R_weight) [] := by
  refine cal_mk F sc__law_weight (PF.len fun ds d ⟨_, _, _, _, e, _⟩ => by rw [e]; rfl) fun f cdv A outer s H vs Q E hr h => ?_
  have nd := sc__law_weight.nd
  obtain ⟨ds, d, hv, ⟨r, l, ok, hl, rfl, rfl⟩, q⟩ := h
  obtain ⟨v1, v2, rfl, h1, h2⟩ := len2 hv
  refine ⟨_, ((pss_one (ps_ret (pe_op op_add (pe_callB (cr_sumK K rfl rfl) (by rfl) T.b_sum bb_sum (pa_cons (pe_slice (sl_listK K rfl) (pv 1) po_none (po_some pe_int)) pa_nil)) (pe_callB (cr_sumK K rfl rfl) (by rfl) T.b_sum bb_sum (pa_cons (pe_lc (own := [("_law_one", 2)]) rfl nd (pi_listK K rfl (pe_slice (sl_listK K rfl) (pv 1) (po_some pe_int) po_none)) (blkOk_by (own := [("_law_one", 2)]) (by kernel_rfl)) (fun _ _ _ _ _ => (pg_name (i := 2) nd rfl (Or.inl rfl))) (fun _ _ _ _ _ => pts_nil) (fun _ _ _ _ _ => (pe_op op_fdiv (pe_callTy call_int1 (by rfl) T.b_int bb_int (pa_cons (pe_op op_sub (pe_op op_add (pv 2) (pe_ix (ix_tupK K rfl) (pv 0) pe_int (fun _ _ => rfl))) pe_int) pa_nil)) (pe_ix (ix_tupK K rfl) (pv 0) pe_int (fun _ _ => rfl))))) pa_nil)))))), ?_⟩
  have f1 := ok.f1
  have f3 := ok.f3
  refine sd_ret (K := K) (d := .int (pagesOf r l)) ?_ q
  refine ed_op (ed_cb (es_cons ((ed_slL (ed_var (i := 1) rfl h2) eo_none eo_c).is (f := .list ((l.take 2).map PyData.int)) ?_) es_nil) rc_sumL) (ed_cb (es_cons ((ed_lcM (K := K) (onInt fun i => .int ((i + r.factor - 1) / r.factor)) (ei_list (ed_slL (ed_var (i := 1) rfl h2) eo_c eo_none)) ?_ (fun _ => rfl) ?_ ?_).is (f := .list (((l.drop 2).map fun s => (s + r.factor - 1) / r.factor).map PyData.int)) ?_) es_nil) rc_sumL) rd_I0
  · rw [cut_take2, ← List.map_take]
  · rw [cut_drop2, List.length_drop, List.length_map]
    omega
  · intro d hd
    rw [cut_drop2, ← List.map_drop] at hd
    obtain ⟨i, _, rfl⟩ := List.mem_map.mp hd
    rfl
  · intro d hd x H1 e hx
    rw [cut_drop2, ← List.map_drop] at hd
    obtain ⟨i, _, rfl⟩ := List.mem_map.mp hd
    have g := ed_ixT (K := K) (σ := (wipe (L2.start ["_law_r", "_law_line", "_law_one"] [v1, v2]) [2]).set 2 (some x)) (H := H1) (j := 6) (i := 0) (d := .int r.factor) rfl (Dpm h1 e) rfl
    exact ed_op (ed_cb (es_cons (ed_op (ed_op (ed_var (i := 2) rfl hx) g rd_I0) ed_int rd_I0) es_nil) rc_int) g (rd_I ⟨by omega, by omega⟩)
  · rw [cut_drop2, ← List.map_drop, map_onInt, List.map_map]
    rfl
/-! _law_step: 0 _law_r, 1 _law_here, 2 _law_event, 3 _law_more, 4 _law_line -/
abbrev s__law_step : Stmt := topS 46
theorem sc__law_step : FnScope ["_law_r", "_law_here", "_law_event", "_law_more", "_law_line"] ["_law_r", "_law_here", "_law_event"] (defScope s__law_step) := by
  exact ⟨rfl, rfl, rfl, by decide +kernel, rfl, by decide +kernel, by decide +kernel⟩

/-- a list of ints, ours alone: it was not there in H0 -/
structure Own (H0 H : Hp) (p : Addr) (l : List Int) : Prop where
  ex : Ex H0 H
  new : H0 p = none
  is : H p = some (.lst (l.map V.int))
theorem Own.mono {H0 H H' : Hp} {p : Addr} {l : List Int} (o : Own H0 H p l) (e : Ex H H') : Own H0 H' p l := ⟨o.ex.trans e, o.new, e _ _ o.is⟩
theorem Own.dp {H0 H : Hp} {p : Addr} {l : List Int} (o : Own H0 H p l) : Dp K H (.ref p) (.list (l.map PyData.int)) := .lst (.of o.is) dpa_of_ints
theorem sq_ifL {t : TT} {tz : TS} {D : Ends} {σ : L2.St} {H0 H : Hp} {b : Bool} {i : Nat} {p : Addr} {l : List Int} (h : EvT t σ H b) (hi : σ[i]? = some (some (.ref p))) (o : Own H0 H p l) (hl : l.length ≤ 1000)
    (k : ∀ p' H', Own H0 H' p' (if b = true then 0 :: l else l) → tz D (σ.set i (some (.ref p'))) H') : tSeq (tIfS t (tAsg (tOp (rCatS K) (tLst (tCons (tC (.int 0)) tNil)) (tVar i)) (gName i)) tNext) tz D σ H := by
  refine sq_if h (fun hb H1 e1 => ?_) fun hb H1 e1 => ?_
  · refine ⟨Evl.sz_of (by simp), fun q hq => ⟨_, hi, q, p, [.int 0], l.map V.int, rfl, rfl, .of upd_same, .of ((Ex.new hq) _ _ (e1 _ _ o.is)), Evl.sz_of (by simp; omega), fun p' hp' => ?_⟩⟩
    have e2 : Ex H (upd (upd H1 q (.lst [.int 0])) p' (.lst ([.int 0] ++ l.map V.int))) := (e1.trans (Ex.new hq)).trans (Ex.new hp')
    refine k p' _ ⟨o.ex.trans e2, ex_none ((o.ex.trans e1).trans (Ex.new hq)) hp', ?_⟩
    rw [if_pos hb]
    exact upd_same
  · show tz D σ H1
    have e : σ.set i (some (.ref p)) = σ := by
      apply List.ext_getElem?
      intro j
      by_cases hj : i = j
      · subst hj
        have hl := (List.getElem?_eq_some_iff.mp hi).1
        rw [List.getElem?_set_self hl, hi]
      · rw [List.getElem?_set_ne hj]
    have g := k p H1 (by rw [if_neg (by rw [hb]; decide)]; exact o.mono e1)
    rwa [e] at g
def R_step (ds : List PD) (d : PD) : Prop := ∃ r l e, Rule.Ok r ∧ l ≠ [] ∧ l.length ≤ 100 ∧ ds = [ruleD r, szD l, evD e] ∧ d = szD (lawStep r l e)
theorem cal__law_step (T : Txt K mg aF) (F : DefK K mg "_law_step" s__law_step ["_law_r", "_law_here", "_law_event"]) (C__law_weight : C8.Cal P w K mg base 1 "_law_weight" (PF K R_weight) []) : C8.Cal P w K mg base 2 "_law_step" (PF K R_step) [] := by
  refine cal_mk F sc__law_step (PF.len fun ds d ⟨_, _, _, _, _, _, e, _⟩ => by rw [e]; rfl) fun f cdv A outer s H vs Q E hr h => ?_
  have nd := sc__law_step.nd
  have hr1 := hr
  obtain ⟨ds, d, hv, ⟨r, l, e, ok, ne, hl, rfl, rfl⟩, q⟩ := h
  obtain ⟨v1, v2, v3, rfl, h1, h2, h3⟩ := len3 hv
  refine ⟨_, ((pss_cons (ps_par (i := 3) (j := 4) rfl nd rfl rfl (by decide) rfl rfl (pa_cons (pe_m1 PySem.F.slot_str_find PySem.F.type_str_find mt_find pe_str (pv 2)) (pa_cons (pe_callTy (call_lstK K rfl) (by rfl) T.b_list bb_list (pa_cons (pv 1) pa_nil)) pa_nil)) (by with_unfolding_all rfl)) 
    (pss_cons (ps_if (PW.pt (pw_and (pt_cmpR op_eq (pv 3) pe_int (nomark _)) (pw_and (pt_val (pe_ix (ix_tupK K rfl) (pv 0) pe_int (fun _ _ => rfl))) (pw_and1 (PW.pt (pw_or (pt_val (pe_ix (ix_tupK K rfl) (pv 0) pe_int (fun _ _ => rfl))) (pw_or1 (pt_cmpR op_gt (pe_ix (ix_listK K rfl) (pv 4) pe_int (fun _ _ => rfl)) pe_int (nomark _))))))))) 
      (pss_one (ps_set (i := 4) nd rfl (Or.inl rfl) (pe_op (op_catSK K rfl) (pe_lst (pa_cons pe_int pa_nil)) (pv 4)))) pss_nil) 
    (pss_cons (ps_if (PW.pt (pw_and (pt_cmpR op_gt (pv 3) pe_int (nomark _)) (pw_and (pt_val (pe_ix (ix_tupK K rfl) (pv 0) pe_int (fun _ _ => rfl))) (pw_and (pt_cmpR op_gt (pe_ix (ix_listK K rfl) (pv 4) pe_int (fun _ _ => rfl)) pe_int (nomark _)) (pw_and1 (pt_cmpR op_gt (pe_op op_add (pe_ix (ix_listK K rfl) (pv 4) pe_int (fun _ _ => rfl)) (pv 3)) (pe_ix (ix_tupK K rfl) (pv 0) pe_int (fun _ _ => rfl)) (nomark _))))))) 
      (pss_one (ps_set (i := 4) nd rfl (Or.inl rfl) (pe_op (op_catSK K rfl) (pe_lst (pa_cons pe_int pa_nil)) (pv 4)))) pss_nil) 
    (pss_cons (ps_asg (pe_op op_add (pe_ix (ix_listK K rfl) (pv 4) pe_int (fun _ _ => rfl)) (pv 3)) (pg_sub (pv 4) pe_int set_list)) 
    (pss_cons (ps_if (PW.pt (pw_and (pt_cmpR op_gt (pv 3) pe_int (nomark _)) (pw_and (pt_not (pt_val (pe_ix (ix_tupK K rfl) (pv 0) pe_int (fun _ _ => rfl)))) (pw_and1 (pt_cmpR op_ge (pe_ix (ix_listK K rfl) (pv 4) pe_int (fun _ _ => rfl)) (pe_ix (ix_tupK K rfl) (pv 0) pe_int (fun _ _ => rfl)) (nomark _)))))) 
      (pss_one (ps_set (i := 4) nd rfl (Or.inl rfl) (pe_op (op_catSK K rfl) (pe_lst (pa_cons pe_int pa_nil)) (pv 4)))) pss_nil) 
    (pss_cons (ps_set (i := 4) nd rfl (Or.inl rfl) (pe_slice (sl_listK K rfl) (pv 4) po_none (po_some (pe_op op_add (pe_ix (ix_tupK K rfl) (pv 0) pe_int (fun _ _ => rfl)) pe_int)))) 
    (pss_cons (ps_while PassesOwn.never (PW.pt (pw_and (pt_cmp (pc_notN (pe_ix (ix_tupK K rfl) (pv 0) pe_int (fun _ _ => rfl)))) (pw_and (pt_cmpR op_gt (pe_callB (call_lenK K rfl) (by rfl) T.b_len bb_len (pa_cons (pv 4) pa_nil)) pe_int (nomark _)) (pw_and1 (pt_cmpR op_gt (C8.pe_c C__law_weight hr1 (by decide) (by rfl) (pa_cons (pv 0) (pa_cons (pv 4) pa_nil))) (pe_ix (ix_tupK K rfl) (pv 0) pe_int (fun _ _ => rfl)) (nomark _)))))) 
      (pss_one (ps_set (i := 4) nd rfl (Or.inl rfl) (pe_slice (sl_listK K rfl) (pv 4) po_none (po_some (pe_un un_neg pe_int)))))) 
    (pss_one (ps_ret (pe_callTy (call_tupK K rfl) (by rfl) T.b_tuple bb_tuple (pa_cons (pv 4) pa_nil)))))))))))), ?_⟩
  have hfind : Txt.find "-ab" (evS e) = e.more := by cases e <;> decide +kernel
  obtain ⟨a, hs2, rfl⟩ : ∃ a, SqT K H a (l.map V.int) ∧ v2 = .ref a := by
    cases h2 with
    | @tup a xs _ hs ha =>
      have e := dpa_ints ha
      subst e
      exact ⟨a, hs, rfl⟩
  have e3 : v3 = .str (evS e) := by cases h3; rfl
  subst e3
  refine ⟨⟨_, rfl⟩, _, rfl, "-ab", evS e, rfl, rfl, _, rfl, a, l.map V.int, rfl, .inr hs2, fun p hp => ⟨_, _, rfl, ?_⟩⟩
  rw [hfind]
  have o : Own H (upd H p (.lst (l.map V.int))) p l := ⟨Ex.new hp, hp, upd_same⟩
  generalize upd H p (.lst (l.map V.int)) = H1 at o
  have hn0 : 0 ≤ e.more := by cases e <;> decide
  have goal := lawStep r l e
  have eqS : lawStep r l e = within r ((lawAdd r l e.more).take (r.keep + 1).toNat) := rfl
  rw [eqS] at q
  generalize e.more = n at q hn0 eqS
  -- what stands
  have R : ∀ {H' : Hp} {p' : Addr} {l' : List Int} {j : Int} {d : PD} {ve : V}, Own H H' p' l' → atI [.int r.size, .bool r.early, .bool r.daily, .bool r.empty, .int r.keep, optD r.pages, .int r.factor] j = some d → EvD K (tOp (rIxT K) (tVar 0) (tC (.int j))) [some v1, some (.ref a), some ve, some (.int n), some (.ref p')] H' d := fun o h => ed_ixT rfl (Dpm h1 o.ex) h
  have N : ∀ {H' : Hp} {p' : Addr} {ve : V}, EvD K (tVar 3) [some v1, some (.ref a), some ve, some (.int n), some (.ref p')] H' (.int n) := ed_var rfl (.int n)
  have L0 : ∀ {H' : Hp} {p' : Addr} {l' : List Int} {ve : V}, Own H H' p' l' → l' ≠ [] → EvD K (tOp (rIxL K) (tVar 4) (tC (.int 0))) [some v1, some (.ref a), some ve, some (.int n), some (.ref p')] H' (.int (hd l')) := fun o h => ed_op (ed_var (i := 4) rfl o.dp) ed_int (rd_ixL (at_hd h))
  refine sq_ifL (b := decide (n = 0) && (r.daily && (r.empty || decide (0 < hd l)))) (et_and (et_test (ed_op N (ed_int (i := 0)) rd_eqI)) fun _ => et_and (et_B (R o rfl)) fun _ => Evl.et_or (et_B (R o rfl)) fun _ => et_test (ed_op (L0 o ne) (ed_int (i := 0)) (rd_B0 (g := fun i j => decide (j < i))))) rfl o (by omega) fun p1 H2 o1 => ?_
  generalize hl1 : (if (decide (n = 0) && (r.daily && (r.empty || decide (0 < hd l)))) = true then 0 :: l else l) = l1 at o1
  have ne1 : l1 ≠ [] ∧ l1.length ≤ 101 := by
    rw [← hl1]
    split
    · exact ⟨by simp, by simp; omega⟩
    · exact ⟨ne, by omega⟩
  refine sq_ifL (b := decide (0 < n) && (r.early && (decide (0 < hd l1) && decide (r.size < hd l1 + n)))) (et_and (et_test (ed_op N (ed_int (i := 0)) (rd_B0 (g := fun i j => decide (j < i))))) fun _ => et_and (et_B (R o1 rfl)) fun _ => et_and (et_test (ed_op (L0 o1 ne1.1) (ed_int (i := 0)) (rd_B0 (g := fun i j => decide (j < i))))) fun _ =>
    et_test (ed_op (ed_op (L0 o1 ne1.1) N rd_I0) (R o1 (d := .int r.size) rfl) (rd_B0 (g := fun i j => decide (j < i))))) rfl o1 (by omega) fun p2 H3 o2 => ?_
  generalize hl2 : (if (decide (0 < n) && (r.early && (decide (0 < hd l1) && decide (r.size < hd l1 + n)))) = true then 0 :: l1 else l1) = l2 at o2
  have ne2 : l2 ≠ [] ∧ l2.length ≤ 102 := by
    rw [← hl2]
    split
    · exact ⟨by simp, by simp; omega⟩
    · exact ⟨ne1.1, by omega⟩
  refine sq_sub (K := K) (ed_op (L0 o2 ne2.1) N (rd_I0 (g := fun i j => i + j))) rfl o2.is (c := 0) (j := 0) (by
    rw [List.length_map]
    exact Evl.ixN_nat (j := 0) (List.length_pos_iff.mpr ne2.1)) fun v H4 e4 hv => ?_
  cases hv
  have o3 : Own H (upd H4 p2 (.lst ((l2.map V.int).set 0 (.int (hd l2 + n))))) p2 ((hd l2 + n) :: l2.tail) := ⟨Evl.Ex.mut (o2.ex.trans e4) o2.new, o2.new, by
    rw [upd_same]
    congr 2
    cases l2 with
    | nil => exact absurd rfl ne2.1
    | cons x xs => rfl⟩
  generalize upd H4 p2 (.lst ((l2.map V.int).set 0 (.int (hd l2 + n)))) = H5 at o3
  generalize hl3 : (hd l2 + n) :: l2.tail = l3 at o3
  have ne3 : l3 ≠ [] ∧ l3.length ≤ 103 := by
    rw [← hl3]
    refine ⟨by simp, ?_⟩
    rw [List.length_cons, List.length_tail]
    omega
  refine sq_ifL (b := decide (0 < n) && (!r.early && decide (r.size ≤ hd l3))) (et_and (et_test (ed_op N (ed_int (i := 0)) (rd_B0 (g := fun i j => decide (j < i))))) fun _ => et_and (Evl.et_not (et_B (R o3 rfl))) fun _ => et_test (ed_op (L0 o3 ne3.1) (R o3 (d := .int r.size) rfl) (rd_B0 (g := fun i j => decide (j ≤ i))))) rfl o3 (by omega) fun p4 H6 o4 => ?_
  generalize hl4 : (if (decide (0 < n) && (!r.early && decide (r.size ≤ hd l3))) = true then 0 :: l3 else l3) = l4 at o4
  have ne4 : l4 ≠ [] ∧ l4.length ≤ 104 := by
    rw [← hl4]
    split
    · exact ⟨by simp, by simp; omega⟩
    · exact ⟨ne3.1, by omega⟩
  have hadd : lawAdd r l n = l4 := by
    rw [← hl4, ← hl3, ← hl2, ← hl1]
    rfl
  rw [hadd] at q
  have k0 := ok.k0
  refine sq_set (K := K) (d := .list ((l4.take (r.keep + 1).toNat).map PyData.int)) ((ed_slL (ed_var (i := 4) rfl o4.dp) eo_none (eo_some (ed_op (R o4 (d := .int r.keep) rfl) ed_int rd_I0))).is ?_) fun v5 H7 e7 h5 => ?_
  · have e : r.keep + 1 = (((r.keep + 1).toNat : Nat) : Int) := by omega
    rw [e, cut_take]
    have e' : (((r.keep + 1).toNat : Int)).toNat = (r.keep + 1).toNat := Int.toNat_natCast _
    rw [e', List.map_take]
  have ne5 : l4.take (r.keep + 1).toNat ≠ [] ∧ (l4.take (r.keep + 1).toNat).length ≤ 104 := by
    refine ⟨fun z => ?_, by rw [List.length_take]; omega⟩
    rcases List.take_eq_nil_iff.mp z with z | z
    · omega
    · exact ne4.1 z
  generalize l4.take (r.keep + 1).toNat = l5 at q h5 ne5
  have eB := o4.ex.trans e7
  refine sq_while (fun m σ' H' => ∃ l' v', σ' = [some v1, some (.ref a), some (.str (evS e)), some (.int n), some v'] ∧ Dp K H' v' (.list (l'.map PyData.int)) ∧ Ex H H' ∧ l'.length = m ∧ l' ≠ [] ∧ l'.length ≤ 1000 ∧ within r l' = within r l5) l5.length ⟨l5, v5, rfl, h5, eB, rfl, ne5.1, by omega, rfl⟩ ?_
  rintro m σ' H' ⟨l', v', rfl, hv', e0, rfl, hne', hl', hw⟩
  have h1' := Dpm h1 e0
  have fin : over r l' = false → ∀ H1, Ex H' H1 → _ := fun ho H1 e1 =>
    sd_ret (K := K) (D := { nx := fun _ H' => Q .non H', rt := Q }) (d := szD l') (ed_cb (es_cons (ed_var (σ := [some v1, some (.ref a), some (.str (evS e)), some (.int n), some v']) (i := 4) rfl (Dpm hv' e1)) es_nil) rc_tuple_list) fun v H2 e2 hv2 => q v H2 ((e0.trans e1).trans e2) (by rw [← hw, within_stop ho]; exact hv2)
  have hp : EvD K (tOp (rIxT K) (tVar 0) (tC (.int 5))) [some v1, some (.ref a), some (.str (evS e)), some (.int n), some v'] H' (optD r.pages) := ed_ixT (i := 0) rfl h1' rfl
  cases hpg : r.pages with
  | none =>
    have ho : over r l' = false := by unfold over; rw [hpg]
    rw [hpg] at hp
    exact ⟨false, et_and (a := false) (b := false) (et_B (ed_notN hp)) (fun z => by cases z), fun z => (by cases z), fun _ => fin ho⟩
  | some pp =>
    rw [hpg] at hp
    have ho : over r l' = (decide (1 < l'.length) && decide (pp < pagesOf r l')) := by unfold over; rw [hpg]
    refine ⟨over r l', ?_, fun ho H1 e1 => ?_, fin⟩
    · rw [ho]
      have t1 : EvT (tTest (tOp (rI0 fun i j => .bl (decide (j < i))) (tCB (rLenS K) (tCons (tVar 4) tNil)) (tC (.int 1)))) [some v1, some (.ref a), some (.str (evS e)), some (.int n), some v'] H' (decide (1 < l'.length)) := by
        have h := et_test (ed_op (ed_cb (es_cons (ed_var (K := K) (σ := [some v1, some (.ref a), some (.str (evS e)), some (.int n), some v']) (i := 4) rfl hv') es_nil) rc_lenL) (ed_int (i := 1)) (rd_B0 (g := fun i j => decide (j < i))))
        rw [List.length_map] at h
        have e : decide ((1 : Int) < (l'.length : Int)) = decide (1 < l'.length) := by
          rw [decide_eq_decide]
          omega
        rw [← e]
        exact h
      exact (et_and (a := true) (et_B (ed_notN hp)) fun _ => et_and t1 fun _ => et_test (ed_op (ed_call (es_cons (ed_var (i := 0) rfl h1') (es_cons (ed_var (i := 4) rfl hv') es_nil)) ⟨r, l', ok, hl', rfl, rfl⟩) hp (rd_B0 (g := fun i j => decide (j < i)))))
    · have hlen := over_len ho
      refine ⟨fun σ2 H2 => ∃ v'', σ2 = [some v1, some (.ref a), some (.str (evS e)), some (.int n), some v''] ∧ Dp K H2 v'' (.list (l'.dropLast.map PyData.int)) ∧ Ex H H2, fun σ2 H2 ⟨v'', a, b, c⟩ => ⟨l'.length - 1, by omega, l'.dropLast, v'', a, b, c, by rw [List.length_dropLast], fun z => ?_, by rw [List.length_dropLast]; omega, by rw [← within_step ho]; exact hw⟩, ?_⟩
      · have := congrArg List.length z
        rw [List.length_dropLast] at this
        simp at this
        omega
      · refine sd_set (K := K) ((ed_slL (ed_var (i := 4) rfl (Dpm hv' e1)) eo_none (eo_some (K := K) (ed_un ed_int))).is ?_) fun v H2 e2 hv2 => ⟨v, rfl, hv2, (e0.trans e1).trans e2⟩
        show PyData.list (cutL (l'.map PyData.int) none (some (-1))) = .list (l'.dropLast.map PyData.int)
        rw [cut_last (fun z => hne' (List.map_eq_nil_iff.mp z)), List.map_dropLast]
/-! _law_went: 0 _law_r, 1 _law_here, 2 _law_song_here, 3 _law_found, 4 _law_event -/
abbrev s__law_went : Stmt := topS 47
theorem sc__law_went : FnScope ["_law_r", "_law_here", "_law_song_here", "_law_found", "_law_event"] ["_law_r", "_law_here", "_law_song_here"] (defScope s__law_went) := by
  exact ⟨rfl, rfl, rfl, by decide +kernel, rfl, by decide +kernel, by decide +kernel⟩

def R_went (ds : List PD) (d : PD) : Prop := ∃ r l es, Rule.Ok r ∧ Good r l ∧ es.length ≤ 1000 ∧ ds = [ruleD r, szD l, rowD es] ∧ d = .list ((walkFrom r l es).map szD)
theorem cal__law_went (T : Txt K mg aF) (F : DefK K mg "_law_went" s__law_went ["_law_r", "_law_here", "_law_song_here"]) (C__law_step : C8.Cal P w K mg base 2 "_law_step" (PF K R_step) []) : C8.Cal P w K mg base 3 "_law_went" (PF K R_went) [] := by
  refine cal_mk F sc__law_went (PF.len fun ds d ⟨_, _, _, _, _, _, e, _⟩ => by rw [e]; rfl) fun f cdv A outer s H vs Q E hr h => ?_
  have nd := sc__law_went.nd
  have hr1 := hr
  obtain ⟨ds, d, hv, ⟨r, l, es, ok, g, hle, rfl, rfl⟩, q⟩ := h
  obtain ⟨v1, v2, v3, rfl, h1, h2, h3⟩ := len3 hv
  refine ⟨_, ((pss_cons (ps_set (i := 3) nd rfl (Or.inl rfl) (pe_lst pa_nil)) 
    (pss_cons (ps_for PassesOwn.never rfl (pi_str (pv 2)) (pg_name (i := 4) nd rfl (Or.inl rfl)) 
      (pss_cons (ps_set (i := 1) nd rfl (Or.inl rfl) (C8.pe_c C__law_step hr1 (by decide) (by rfl) (pa_cons (pv 0) (pa_cons (pv 1) (pa_cons (pv 4) pa_nil))))) 
      (pss_one (ps_expr (pe_bm PySem.F.plainAttrs_list PySem.F.slot_list_append PySem.F.type_list_append mt_append (pv 3) (pa_cons (pv 1) pa_nil)))))) 
    (pss_one (ps_ret (pv 3)))))), ?_⟩
  refine sq_new (K := K) fun p hp hA => ?_
  refine sq_for0 (K := K) (Hb := H) (ds := es.map evD) (Ex.new hp) (by rw [← signs_row]; exact ei0_str (ed_var (i := 2) rfl h3))
    (fun i σ' H' => ∃ v x, σ' = [some v1, some v, some v3, some (.ref p), x] ∧ Ex H H' ∧ Dp K H' v (szD (behindFrom r l (es.take i))) ∧ Acc K p H' ((walkFrom r l (es.take i)).map szD))
    (fun H1 e1 => ⟨v2, none, rfl, (Ex.new hp).trans e1, Dpm h2 ((Ex.new hp).trans e1), hA.mono e1⟩) (fun i σ' H' ⟨_, _, _, e, _⟩ => e) ?_ ?_
  · rintro i d x σ' H' H1 hd ⟨v, y, rfl, e0, hv, hA⟩ e1 hx
    rw [List.getElem?_map] at hd
    cases he : es[i]? with
    | none => rw [he] at hd; cases hd
    | some e =>
      rw [he] at hd
      cases hd
      have hle2 : i < es.length := (List.getElem?_eq_some_iff.mp he).1
      have hw := walk_snoc r l (es.take i) e
      have hb := behind_snoc r l (es.take i) e
      rw [← take_snoc he] at hw hb
      have gi := g.behindFrom ok (es.take i)
      have gl := gi.len4 ok
      show tSeq _ _ _ [some v1, some v, some v3, some (.ref p), some x] H1
      refine sq_set (K := K) (d := szD (moved r (behindFrom r l (es.take i)) e)) ((ed_call (es_cons (ed_var (i := 0) rfl (Dpm h1 (e0.trans e1))) (es_cons (ed_var (i := 1) rfl (Dpm hv e1)) (es_cons (ed_var (i := 4) rfl hx) es_nil))) ⟨r, _, e, ok, gi.ne, by omega, rfl, rfl⟩).is (by rw [lawStep_eq ok gi e])) fun v' H2 e2 hv' => ?_
      refine sd_appA (K := K) (ed_var (i := 1) rfl hv') (i := 3) rfl ((hA.mono e1).mono e2) (tupOnlyAll_map fun _ _ => szD_tup _) (szD_tup _) (by rw [List.length_map, walk_length, List.length_take]; omega) fun H3 H4 o e3 xb eo hA' => ?_
      refine ⟨v', some x, rfl, ?_, ?_, ?_⟩
      · rw [eo]
        exact Evl.Ex.mut (((e0.trans e1).trans e2).trans e3) hp
      · rw [hb]
        exact dp_b xb _ _ (szD_tup _) (Dpm hv' e3)
      · rw [hw, List.map_append]
        exact hA'
  · rintro σ' H' ⟨v, y, rfl, e0, hv, hA⟩
    rw [List.length_map, List.take_length] at hA
    exact sd_ret (ed_var (i := 3) rfl hA.dp) fun z H1 e1 hz => q z H1 (e0.trans e1) hz
end
end Tlg
namespace Tlg
open PySem PySem.Spec PyProof.Rows L2
open Evl (Ex EvT EvO ex_l ex_t)
section
variable {P : Program} {w : World} {K : PySem.W.Frag} {mg : Str → Option Value} {base : Heap} {aF aS : Addr}
/-! ### _law_sort -/
/-! _law_sort: 0 _law_thing -/
abbrev s__law_sort : Stmt := topS 43
theorem sc__law_sort : FnScope ["_law_thing"] ["_law_thing"] (defScope s__law_sort) := by
  exact ⟨rfl, rfl, rfl, by decide +kernel, rfl, by decide +kernel, by decide +kernel⟩

def sortOf : PD → Int
  | .bool _ => 1
  | .int _ => 2
  | .str _ => 3
  | .list _ => 4
  | .tuple _ => 5
  | _ => 6
def R_sort (ds : List PD) (d : PD) : Prop := ∃ x, ds = [x] ∧ d = .int (sortOf x)
theorem cal__law_sort (T : Txt K mg aF) (F : DefK K mg "_law_sort" s__law_sort ["_law_thing"]) : C8.Cal P w K mg base 1 "_law_sort" (PF K R_sort) [] := by
  refine cal_mk F sc__law_sort (PF.len fun ds d ⟨_, e, _⟩ => by rw [e]; rfl) fun f cdv A outer s H vs Q E hr h => ?_
  have nd := sc__law_sort.nd
  obtain ⟨ds, d, hv, ⟨x, rfl, rfl⟩, q⟩ := h
  obtain ⟨v1, rfl, h1⟩ := len1 hv
  refine ⟨_, ((pss_cons (ps_if (pt_val (pe_callB (isi_K K rfl) (by rfl) T.b_isinstance bb_isinstance (pa_cons (pv 0) (pa_cons (pe_bltn (v := .ty "bool") (by rfl) T.b_bool bb_bool rfl) pa_nil)))) 
      (pss_one (ps_ret pe_int)) pss_nil) 
    (pss_cons (ps_if (pt_val (pe_callB (isi_K K rfl) (by rfl) T.b_isinstance bb_isinstance (pa_cons (pv 0) (pa_cons (pe_bltn (v := .ty "int") (by rfl) T.b_int bb_int rfl) pa_nil)))) 
      (pss_one (ps_ret pe_int)) pss_nil) 
    (pss_cons (ps_if (pt_val (pe_callB (isi_K K rfl) (by rfl) T.b_isinstance bb_isinstance (pa_cons (pv 0) (pa_cons (pe_bltn (v := .ty "str") (by rfl) T.b_str bb_str rfl) pa_nil)))) 
      (pss_one (ps_ret pe_int)) pss_nil) 
    (pss_cons (ps_if (pt_val (pe_callB (isi_K K rfl) (by rfl) T.b_isinstance bb_isinstance (pa_cons (pv 0) (pa_cons (pe_bltn (v := .ty "list") (by rfl) T.b_list bb_list rfl) pa_nil)))) 
      (pss_one (ps_ret pe_int)) pss_nil) 
    (pss_one (ps_ret (pe_ifExp (pt_val (pe_callB (isi_K K rfl) (by rfl) T.b_isinstance bb_isinstance (pa_cons (pv 0) (pa_cons (pe_bltn (v := .ty "tuple") (by rfl) T.b_tuple bb_tuple rfl) pa_nil)))) pe_int pe_int)))))))), ?_⟩
  have V1 : ∀ {H1 : Hp}, Ex H H1 → EvD K (tVar 0) (L2.start ["_law_thing"] [v1]) H1 x := fun e => ed_var (i := 0) rfl (Dpm h1 e)
  have yes : ∀ {T : String} {n : Int} {H1 : Hp} {tz : TS}, Ex H H1 → PySem.W.kitOne K (.type (tyOf x)) (.type T) = some true → sortOf x = n →
      tSeq (tIfS (tB (tCB (rIsi K) (tCons (tVar 0) (tCons (tC (.ty T)) tNil)))) (tRet (tC (.int n))) tNext) tz { nx := fun _ H' => Q .non H', rt := Q } (L2.start ["_law_thing"] [v1]) H1 := fun {T n H1 tz} e k hn =>
    sq_ifRet (et_B (rc_isa k (V1 e))) (fun _ H2 e2 => sd_ret (K := K) ed_int fun v H3 e3 hv => q v H3 ((e.trans e2).trans e3) (by rw [hn]; exact hv)) fun z => by cases z
  have no : ∀ {T : String} {n : Int} {H1 : Hp} {tz : TS}, Ex H H1 → PySem.W.kitOne K (.type (tyOf x)) (.type T) = some false → (∀ H2, Ex H H2 → tz { nx := fun _ H' => Q .non H', rt := Q } (L2.start ["_law_thing"] [v1]) H2) →
      tSeq (tIfS (tB (tCB (rIsi K) (tCons (tVar 0) (tCons (tC (.ty T)) tNil)))) (tRet (tC (.int n))) tNext) tz { nx := fun _ H' => Q .non H', rt := Q } (L2.start ["_law_thing"] [v1]) H1 := fun {T n H1 tz} e k hn =>
    sq_ifRet (et_B (rc_isa k (V1 e))) (fun z => by cases z) fun _ H2 e2 => hn H2 (e.trans e2)
  have e0 := Ex.refl H
  cases x with
  | bool c => exact yes e0 (kit_ty kb_bool_bool) rfl
  | int c => exact no e0 (kit_ty kb_int_bool) fun _ e => yes e (kit_ty kb_int_int) rfl
  | str c => exact no e0 (kit_ty kb_str_bool) fun _ e => no e (kit_ty kb_str_int) fun _ e => yes e (kit_ty kb_str_str) rfl
  | list c => exact no e0 (kit_ty kb_list_bool) fun _ e => no e (kit_ty kb_list_int) fun _ e => no e (kit_ty kb_list_str) fun _ e => yes e (kit_ty kb_list_list) rfl
  | tuple c => exact no e0 (kit_ty kb_tuple_bool) fun _ e => no e (kit_ty kb_tuple_int) fun _ e => no e (kit_ty kb_tuple_str) fun _ e => no e (kit_ty kb_tuple_list) fun _ e => sd_ret (K := K) (d := .int 5) (ed_if (b := true) (et_B (rc_isa (d := .tuple c) (kit_ty kb_tuple_tuple) (V1 e))) (fun _ => ed_int) fun z => by cases z) fun v H3 e3 hv => q v H3 (e.trans e3) hv
  | none => exact no e0 (kit_ty kb_none_bool) fun _ e => no e (kit_ty kb_none_int) fun _ e => no e (kit_ty kb_none_str) fun _ e => no e (kit_ty kb_none_list) fun _ e => sd_ret (K := K) (d := .int 6) (ed_if (b := false) (et_B (rc_isa (d := .none) (kit_ty kb_none_tuple) (V1 e))) (fun z => by cases z) fun _ => ed_int) fun v H3 e3 hv => q v H3 (e.trans e3) hv
  | dict c => cases h1
/-! ### _law_same -/
/-! _law_same: 0 _law_told, 1 _law_due, 2 _law_k, 3 _law_part -/
abbrev s__law_same : Stmt := topS 44
theorem sc__law_same : FnScope ["_law_told", "_law_due", "_law_k", "_law_part"] ["_law_told", "_law_due"] (defScope s__law_same) := by
  exact ⟨rfl, rfl, rfl, by decide +kernel, rfl, by decide +kernel, by decide +kernel⟩

def flatN : Nat → PD → Prop
  | 0, _ => False
  | n + 1, .list ds => ds.length ≤ 100000 ∧ ∀ d ∈ ds, flatN n d
  | n + 1, .tuple ds => ds.length ≤ 100000 ∧ ∀ d ∈ ds, flatN n d
  | _ + 1, .str _ => False
  | _ + 1, .dict _ => False
  | _ + 1, _ => True
def R_same (n : Nat) (ds : List PD) (d : PD) : Prop := ∃ x, flatN n x ∧ ds = [x, x] ∧ d = .bool true
theorem enumD_mem {d1 d2 : PD} : ∀ {k : Nat} {ds : List PD}, PyData.tuple [d1, d2] ∈ enumD k ds → ∃ i : Nat, d1 = .int ((k + i : Nat) : Int) ∧ ds[i]? = some d2
  | k, [], h => by cases h
  | k, d :: ds, h => by
    rcases List.mem_cons.mp h with h | h
    · cases h
      exact ⟨0, rfl, rfl⟩
    · obtain ⟨i, e, hi⟩ := enumD_mem (ds := ds) h
      exact ⟨i + 1, by rw [e]; congr 2; omega, hi⟩
theorem enumD_pair : ∀ {k : Nat} {ds : List PD}, ∀ d ∈ enumD k ds, ∃ d1 d2, d = PyData.tuple [d1, d2]
  | k, [], d, h => by cases h
  | k, a :: ds, d, h => by
    rcases List.mem_cons.mp h with h | h
    · exact ⟨_, _, h⟩
    · exact enumD_pair d h
theorem rd_eqFlat {d : PD} (h : (∃ i, d = .int i) ∨ (∃ i, d = .bool i) ∨ d = .none) : RD K rEq d d (.bool true) := fun H v u hv hu Q q => by
  rcases h with ⟨i, rfl⟩ | ⟨i, rfl⟩ | rfl <;> (cases hv; cases hu; refine ⟨rfl, ?_⟩; rw [decide_eq_true rfl]; exact q _ H (Ex.refl H) (.bl _))
theorem cal__law_same (T : Txt K mg aF) (F : DefK K mg "_law_same" s__law_same ["_law_told", "_law_due"]) (C__law_sort : C8.Cal P w K mg base 1 "_law_sort" (PF K R_sort) []) : ∀ n, C8.Cal P w K mg base (n + 1) "_law_same" (PF K (R_same n)) []
  | 0 => cal_mk F sc__law_same (PF.len fun ds d ⟨_, h, _⟩ => h.elim) fun f cdv A outer s H vs Q E hr h => by
    obtain ⟨_, _, _, ⟨_, h, _⟩, _⟩ := h
    exact h.elim
  | n + 1 => cal_mk F sc__law_same (PF.len fun ds d ⟨_, _, e, _⟩ => by rw [e]; rfl) fun f cdv A outer s H vs Q E hr h => by
    have C_self := cal__law_same T F C__law_sort n
    have nd := sc__law_same.nd
    have hr1 := hr
    have hu64 := hu_64 hr1
    have h1n : 1 ≤ n + 1 := Nat.succ_le_succ (Nat.zero_le n)
    obtain ⟨ds, d, hv, ⟨x, hf, rfl, rfl⟩, q⟩ := h
    obtain ⟨v1, v2, rfl, h1, h2⟩ := len2 hv
    refine ⟨_, ((pss_cons (ps_if (pt_cmpR op_ne (C8.pe_c C__law_sort hr1 (by omega) (by rfl) (pa_cons (pv 0) pa_nil)) (C8.pe_c C__law_sort hr1 (by omega) (by rfl) (pa_cons (pv 1) pa_nil)) (nomark _)) 
      (pss_one (ps_ret pe_bl)) pss_nil) 
    (pss_cons (ps_if (PW.pt (pw_and (pt_cmpR op_gt (C8.pe_c C__law_sort hr1 (by omega) (by rfl) (pa_cons (pv 0) pa_nil)) pe_int (nomark _)) (pw_and1 (pt_cmpR op_lt (C8.pe_c C__law_sort hr1 (by omega) (by rfl) (pa_cons (pv 0) pa_nil)) pe_int (nomark _))))) 
      (pss_cons (ps_if (pt_cmpR op_ne (pe_callB (call_lenK K rfl) (by rfl) T.b_len bb_len (pa_cons (pv 0) pa_nil)) (pe_callB (call_lenK K rfl) (by rfl) T.b_len bb_len (pa_cons (pv 1) pa_nil)) (nomark _)) 
        (pss_one (ps_ret pe_bl)) pss_nil) 
      (pss_one (ps_ret (pe_cmpR (op_eqDK K rfl hu64) (pe_lc (own := [("_law_k", 2), ("_law_part", 3)]) rfl nd (pi_enumK K rfl (by rfl) T.b_enumerate (pa_cons (pv 0) pa_nil)) (blkOk_by (own := [("_law_k", 2), ("_law_part", 3)]) (by kernel_rfl)) (fun _ _ _ _ _ => (pg_tupK K 2 rfl rfl (pgs_cons (pg_name (i := 2) nd rfl (Or.inl rfl)) (pgs_cons (pg_name (i := 3) nd rfl (Or.inl rfl)) pgs_nil)))) (fun _ _ _ _ _ => pts_one (pt_not (pt_val (C8.pe_c C_self hr1 (Nat.le_refl _) (by rfl) (pa_cons (pv 3) (pa_cons (pe_ix (ix_seqK K rfl) (pv 1) (pv 2) (fun _ _ => rfl)) pa_nil)))))) (fun _ _ _ _ _ => (pv 2))) (pe_lst pa_nil) (nomark _))))) pss_nil) 
    (pss_one (ps_ret (pe_cmpR op_eq (pv 0) (pv 1) (nomark _))))))), ?_⟩
    have so1 : ∀ {H1 : Hp}, Ex H H1 → EvD K (tCall (PF K R_sort) [] C8.E0 (tCons (tVar 0) tNil)) (L2.start ["_law_told", "_law_due", "_law_k", "_law_part"] [v1, v2]) H1 (.int (sortOf x)) := fun e => ed_call (es_cons (ed_var (i := 0) rfl (Dpm h1 e)) es_nil) ⟨x, rfl, rfl⟩
    have so2 : ∀ {H1 : Hp}, Ex H H1 → EvD K (tCall (PF K R_sort) [] C8.E0 (tCons (tVar 1) tNil)) (L2.start ["_law_told", "_law_due", "_law_k", "_law_part"] [v1, v2]) H1 (.int (sortOf x)) := fun e => ed_call (es_cons (ed_var (i := 1) rfl (Dpm h2 e)) es_nil) ⟨x, rfl, rfl⟩
    refine sq_ifRet (et_test (ed_op (so1 (Ex.refl H)) (so2 (Ex.refl H)) rd_neI)) (fun hb => by simp at hb) fun _ H1 e1 => ?_
    refine sq_ifRet (et_and (et_test (ed_op (so1 e1) (ed_int (i := 3)) (rd_B0 (g := fun i j => decide (j < i))))) fun _ => et_test (ed_op (so1 e1) (ed_int (i := 6)) (rd_B0 (g := fun i j => decide (i < j))))) (fun hb H2 e2 => ?_) fun hb H2 e2 => ?_
    · have e12 := e1.trans e2
      obtain ⟨ys, hl, hs, hlen, hix, hfl⟩ : ∃ ys : List PD, ys.length ≤ 100000 ∧ IsSrc x ys ∧ RcD K (rLenS K) [x] (.int ys.length) ∧ (∀ i d, atI ys i = some d → RD K (rIx K) x (.int i) d) ∧ ∀ d ∈ ys, flatN n d := by
        cases x with
        | list ys => exact ⟨ys, hf.1, .lst ys, rc_lenL, fun i d h => rd_ixEL h, hf.2⟩
        | tuple ys => exact ⟨ys, hf.1, .tup ys, rc_lenT, fun i d h => rd_ixE h, hf.2⟩
        | _ => simp [sortOf] at hb
      refine sq_ifRet (et_test (ed_op (ed_cb (es_cons (ed_var (i := 0) rfl (Dpm h1 e12)) es_nil) hlen) (ed_cb (es_cons (ed_var (i := 1) rfl (Dpm h2 e12)) es_nil) hlen) rd_neI)) (fun hb => by simp at hb) fun _ H3 e3 => ?_
      have e123 := e12.trans e3
      refine sd_ret (K := K) (d := .bool true) ?_ fun v H4 e4 hv => q v H4 (e123.trans e4) hv
      refine (ed_op (ed_lc2 (K := K) (ds := enumD 0 ys) (fun _ => false) (fun d => d) (ei_enum (es_cons (ed_var (i := 0) rfl (Dpm h1 e123)) es_nil) hs) (by rw [enumD_len]; exact hl) enumD_pair (fun _ _ => rfl) (fun d _ h => by cases h) (fun d1 d2 hd x1 y1 H4 e4 hx1 hy1 => ?_) fun d1 d2 hd h => by cases h) (ed_lst es_nil (by simp)) (rd_eqD ?_ ?_)).is ?_
      · obtain ⟨i, rfl, hi⟩ := enumD_mem hd
        have hd2 : flatN n d2 := hfl d2 (List.mem_of_getElem? hi)
        refine Evl.et_not (a := true) (et_B (ed_call (es_cons (ed_var (i := 3) rfl hy1) (es_cons (ed_op (ed_var (i := 1) rfl (Dpm h2 (e123.trans e4))) (ed_var (i := 2) rfl hx1) (hix _ d2 (at_of (j := i) (by omega) hi))) es_nil)) ⟨d2, hd2, rfl, rfl⟩))
      · rw [List.filter_eq_nil_iff.mpr (by simp)]
        rfl
      · rfl
      · rw [List.filter_eq_nil_iff.mpr (by simp)]
        rfl
    · have hsc : (∃ i, x = .int i) ∨ (∃ i, x = .bool i) ∨ x = .none := by
        cases x with
        | int i => exact .inl ⟨i, rfl⟩
        | bool i => exact .inr (.inl ⟨i, rfl⟩)
        | none => exact .inr (.inr rfl)
        | list i => simp [sortOf] at hb
        | tuple i => simp [sortOf] at hb
        | str i => exact hf.elim
        | dict i => exact hf.elim
      exact sd_ret (K := K) (ed_op (ed_var (i := 0) rfl (Dpm h1 (e1.trans e2))) (ed_var (i := 1) rfl (Dpm h2 (e1.trans e2))) (rd_eqFlat hsc)) fun v H3 e3 hv => q v H3 ((e1.trans e2).trans e3) hv
/-! ### _law_every -/
/-! _law_every: 0 _law_found, 1 _law_first, 2 _law_yes, 3 _law_said, 4 _law_fifth, 5 _law_limit, 6 _law_last -/
abbrev s__law_every : Stmt := topS 50
theorem sc__law_every : FnScope ["_law_found", "_law_first", "_law_yes", "_law_said", "_law_fifth", "_law_limit", "_law_last"] [] (defScope s__law_every) := by
  exact ⟨rfl, rfl, rfl, by decide +kernel, rfl, by decide +kernel, by decide +kernel⟩

/-- a for whose body lengthens one list -/
theorem sd_forG {wi : TI} {g : TG} {tu : TS} {D : Ends} {σ : L2.St} {H : Hp} {ds : List PD} {Inv : List PD → L2.St → Hp → Prop} {L : Nat} (gd : PD → List PD) (A : List PD) (hi : EvI K wi σ H ds) (hL : (A ++ ds.flatMap gd).length ≤ L) (h0 : ∀ H1, Ex H H1 → Inv A σ H1)
    (hs : ∀ d x σ' H1 A', d ∈ ds → (A' ++ gd d).length ≤ L → Ex H H1 → Inv A' σ' H1 → Dp K H1 x d → ∀ N : L2.St → Hp → Prop, (∀ σ2 H2, Ex H1 H2 → Inv (A' ++ gd d) σ2 H2 → N σ2 H2) → g x σ' H1 fun σ2 H2 => tu { D with nx := N, ct := N, bk := D.nx } σ2 H2)
    (hm : ∀ A' σ' H1 H2, Ex H1 H2 → Inv A' σ' H1 → Inv A' σ' H2) (hd : ∀ σ' H', Ex H H' → Inv (A ++ ds.flatMap gd) σ' H' → D.nx σ' H') : tFor wi g tu D σ H := by
  have tk : ∀ i d, ds[i]? = some d → A ++ (ds.take (i + 1)).flatMap gd = (A ++ (ds.take i).flatMap gd) ++ gd d := fun i d h => by
    rw [List.take_add_one, h, List.flatMap_append]
    simp
  have sub : ∀ i, (A ++ (ds.take i).flatMap gd).length ≤ L := fun i => by
    have h : ds.flatMap gd = (ds.take i).flatMap gd ++ (ds.drop i).flatMap gd := by rw [← List.flatMap_append, List.take_append_drop]
    rw [h] at hL
    simp only [List.length_append] at hL ⊢
    omega
  refine sd_for (K := K) hi (fun Hb i σ' H' => Ex H Hb ∧ Ex Hb H' ∧ Inv (A ++ (ds.take i).flatMap gd) σ' H') (fun H1 e1 => ⟨e1, Ex.refl H1, by rw [List.take_zero]; simpa using h0 H1 e1⟩) (fun Hb i σ' H' h => h.2.1) (fun Hb i d x σ' H' H1 eb hd' hp e1 hx => ?_) fun Hb σ' H' eb hp => ?_
  · obtain ⟨_, e2, hI⟩ := hp
    refine hs d x σ' H1 (A ++ (ds.take i).flatMap gd) (List.mem_of_getElem? hd') (by rw [← tk i d hd']; exact sub _) ((eb.trans e2).trans e1) (hm _ _ _ _ e1 hI) hx _ fun σ2 H2 e3 hI2 => ⟨eb, (e2.trans e1).trans e3, ?_⟩
    rw [tk i d hd']
    exact hI2
  · obtain ⟨_, e2, hI⟩ := hp
    rw [List.take_length] at hI
    exact hd σ' H' (eb.trans e2) hI
theorem sq_forG {wi : TI} {g : TG} {tu tz : TS} {D : Ends} {σ : L2.St} {H : Hp} {ds : List PD} {Inv : List PD → L2.St → Hp → Prop} {L : Nat} (gd : PD → List PD) (A : List PD) (hi : EvI K wi σ H ds) (hL : (A ++ ds.flatMap gd).length ≤ L) (h0 : ∀ H1, Ex H H1 → Inv A σ H1)
    (hs : ∀ d x σ' H1 A', d ∈ ds → (A' ++ gd d).length ≤ L → Ex H H1 → Inv A' σ' H1 → Dp K H1 x d → ∀ N : L2.St → Hp → Prop, (∀ σ2 H2, Ex H1 H2 → Inv (A' ++ gd d) σ2 H2 → N σ2 H2) → g x σ' H1 fun σ2 H2 => tu { D with nx := N, ct := N, bk := tz D } σ2 H2)
    (hm : ∀ A' σ' H1 H2, Ex H1 H2 → Inv A' σ' H1 → Inv A' σ' H2) (hd : ∀ σ' H', Ex H H' → Inv (A ++ ds.flatMap gd) σ' H' → tz D σ' H') : tSeq (tFor wi g tu) tz D σ H := sd_forG (D := { D with nx := tz D }) gd A hi hL h0 hs hm hd
def saidD (y : PD) : List PD := match y with
  | .int y => [.bool (decide (3 < y)), .bool (decide (1 < y % 4)), .bool (decide (y % 2 = 1))]
  | _ => []
def limsD : List PD := [.none] ++ (List.range (13 - 1 : Int).toNat).map fun k => PyData.int (1 + (k : Nat))
def g4 (f : PD) (said : List PD) (k l : PD) : List PD := (rangeD 1 3).map fun z => .tuple (([f] ++ said) ++ [k, l, z])
def g3 (f : PD) (said : List PD) (k : PD) : List PD := limsD.flatMap fun l => g4 f said k l
def g2 (f : PD) (y : PD) : List PD := (rangeD 0 4).flatMap fun k => g3 f (saidD y) k
def g1 (f : PD) : List PD := (rangeD 0 8).flatMap fun y => g2 f y
theorem every2_eq : (rangeD 1 3).flatMap g1 = rulesAll.map ruleD := by kernel_rfl
def R_law_every (ds : List PD) (d : PD) : Prop := ds = [] ∧ d = .list (rulesAll.map ruleD)
theorem every2_len : ((rangeD 1 3).flatMap g1).length = 3744 := by rw [every2_eq, List.length_map, rules_len]
theorem cal__law_every (T : Txt K mg aF) (F : DefK K mg "_law_every" s__law_every []) : C8.Cal P w K mg base 1 "_law_every" (PF K R_law_every) [] := by
  refine cal_mk F sc__law_every (PF.len fun ds d ⟨e, _⟩ => by rw [e]; rfl) fun f cdv A outer s H vs Q E hr h => ?_
  have nd := sc__law_every.nd
  obtain ⟨ds, d, hv, ⟨rfl, rfl⟩, q⟩ := h
  cases len0 hv
  refine ⟨_, ((pss_cons (ps_set (i := 0) nd rfl (Or.inl rfl) (pe_lst pa_nil)) 
    (pss_cons (ps_for PassesOwn.never rfl (pi_range2 (by rfl) T.b_range (pa_cons pe_int (pa_cons pe_int pa_nil))) (pg_name (i := 1) nd rfl (Or.inr rfl)) 
      (pss_one (ps_for PassesOwn.never rfl (pi_range1 (by rfl) T.b_range (pa_cons pe_int pa_nil)) (pg_name (i := 2) nd rfl (Or.inl rfl)) 
        (pss_cons (ps_set (i := 3) nd rfl (Or.inr rfl) (pe_tup (pa_cons (pe_cmpR op_gt (pv 2) pe_int (nomark _)) (pa_cons (pe_cmpR op_gt (pe_op op_mod (pe_callTy call_int1 (by rfl) T.b_int bb_int (pa_cons (pv 2) pa_nil)) pe_int) pe_int (nomark _)) (pa_cons (pe_cmpR op_eq (pe_op op_mod (pe_callTy call_int1 (by rfl) T.b_int bb_int (pa_cons (pv 2) pa_nil)) pe_int) pe_int (nomark _)) pa_nil))))) 
        (pss_one (ps_for PassesOwn.never rfl (pi_range1 (by rfl) T.b_range (pa_cons pe_int pa_nil)) (pg_name (i := 4) nd rfl (Or.inr rfl)) 
          (pss_one (ps_for PassesOwn.never rfl (pi_listK K rfl (pe_op (op_catSK K rfl) (pe_lst (pa_cons pe_non pa_nil)) (pe_listRg rfl (by rfl) T.b_list (prg_2 (by rfl) T.b_range pe_int pe_int)))) (pg_name (i := 5) nd rfl (Or.inr rfl)) 
            (pss_one (ps_set (i := 0) nd rfl (Or.inl rfl) (pe_op (op_catSK K rfl) (pv 0) (pe_lc (own := [("_law_last", 6)]) rfl nd (pi_range2 (by rfl) T.b_range (pa_cons pe_int (pa_cons pe_int pa_nil))) (blkOk_by (own := [("_law_last", 6)]) (by kernel_rfl)) (fun _ _ _ _ _ => (pg_name (i := 6) nd rfl (Or.inl rfl))) (fun _ _ _ _ _ => pts_nil) (fun _ _ _ _ _ => (pe_op (op_catAK K rfl) (pe_op (op_catAK K rfl) (pe_tup (pa_cons (pv 1) pa_nil)) (pv 3)) (pe_tup (pa_cons (pv 4) (pa_cons (pv 5) (pa_cons (pv 6) pa_nil)))))))))))))))))) 
    (pss_one (ps_ret (pv 0)))))), ?_⟩
  refine sq_set (K := K) (d := .list []) (ed_lst es_nil (by simp)) fun v0 H1 e1 hv0 => ?_
  refine sq_forG (K := K) (Inv := fun A σ' H' => ∃ v a b c d e, σ' = [some v, a, b, c, d, e, none] ∧ Dp K H' v (.list A)) (L := 3744) g1 [] (ds := rangeD 1 3) (EvI0.evI (ei0_r2 (es_cons (ed_int (i := 1)) (es_cons (ed_int (i := 4)) es_nil)) (by decide))) (by rw [List.nil_append, every2_len]; exact Nat.le_refl _) (fun H2 e2 => ⟨v0, none, none, none, none, none, rfl, Dpm hv0 e2⟩) ?_
    (fun A' σ' H1 H2 e ⟨v, a, b, c, d, e', h1, h2⟩ => ⟨v, a, b, c, d, e', h1, Dpm h2 e⟩) (fun σ' H' eB ⟨v, a, b, c, d, e', h1, h2⟩ => by
      subst h1
      rw [List.nil_append, every2_eq] at h2
      exact sd_ret (K := K) (ed_var (i := 0) rfl h2) fun z H2 e2 hz => q z H2 ((e1.trans eB).trans e2) hz)
  rintro f1 x1 σ1 H2 A1 hm1 hL1 eB1 ⟨v1, a, b, c, d, e, rfl, hv1⟩ hx1 N1 hN1
  -- the second loop
  show tFor _ _ _ _ [some v1, some x1, b, c, d, e, none] H2
  refine sd_forG (K := K) (Inv := fun A σ' H' => ∃ v b c d e, σ' = [some v, some x1, b, c, d, e, none] ∧ Dp K H' v (.list A) ∧ Dp K H' x1 f1) (L := 3744) (g2 f1) A1 (ds := rangeD 0 8) (EvI0.evI (ei0_r1 (es_cons (ed_int (i := 8)) es_nil) (by decide))) hL1 (fun H3 e3 => ⟨v1, b, c, d, e, rfl, Dpm hv1 e3, Dpm hx1 e3⟩) ?_
    (fun A' σ' H1 H2 e ⟨v, b, c, d, e', h1, h2, h3⟩ => ⟨v, b, c, d, e', h1, Dpm h2 e, Dpm h3 e⟩) (fun σ' H' eB ⟨v, b, c, d, e', h1, h2, h3⟩ => hN1 σ' H' eB ⟨v, _, b, c, d, e', h1, h2⟩)
  rintro f2 x2 σ2 H3 A2 hm2 hL2 eB2 ⟨v2, b, c, d, e, rfl, hv2, hx1⟩ hx2 N2 hN2
  obtain ⟨y, rfl⟩ : ∃ y : Int, f2 = .int y := by
    obtain ⟨k, _, e⟩ := List.mem_map.mp hm2
    exact ⟨_, e.symm⟩
  show tSeq _ _ _ [some v2, some x1, some x2, c, d, e, none] H3
  refine sq_set (K := K) (d := .tuple (saidD (.int y))) (ed_tup (es_cons (ed_op (ed_var (i := 2) rfl hx2) (ed_int (i := 3)) (rd_B0 (g := fun i j => decide (j < i)))) (es_cons (ed_op (ed_op (ed_cb (es_cons (ed_var (i := 2) rfl hx2) es_nil) rc_int) (ed_int (i := 4)) (rd_I (g := fun i j => i % j) (by decide))) (ed_int (i := 1)) (rd_B0 (g := fun i j => decide (j < i))))
    (es_cons (ed_op (ed_op (ed_cb (es_cons (ed_var (i := 2) rfl hx2) es_nil) rc_int) (ed_int (i := 2)) (rd_I (g := fun i j => i % j) (by decide))) (ed_int (i := 1)) rd_eqI) es_nil))) (by show (3 : Nat) ≤ 100000; decide)) fun v3 H4 e4 hv3 => ?_
  -- the third loop
  show tFor _ _ _ _ [some v2, some x1, some x2, some v3, d, e, none] H4
  refine sd_forG (K := K) (Inv := fun A σ' H' => ∃ v d e, σ' = [some v, some x1, some x2, some v3, d, e, none] ∧ Dp K H' v (.list A) ∧ Dp K H' x1 f1 ∧ Dp K H' v3 (.tuple (saidD (.int y)))) (L := 3744) (g3 f1 (saidD (.int y))) A2 (ds := rangeD 0 4) (EvI0.evI (ei0_r1 (es_cons (ed_int (i := 4)) es_nil) (by decide))) hL2 (fun H5 e5 => ⟨v2, d, e, rfl, Dpm hv2 (e4.trans e5), Dpm hx1 (e4.trans e5), Dpm hv3 e5⟩) ?_
    (fun A' σ' H1 H2 e ⟨v, d, e', h1, h2, h3, h4⟩ => ⟨v, d, e', h1, Dpm h2 e, Dpm h3 e, Dpm h4 e⟩) (fun σ' H' eB ⟨v, d, e', h1, h2, h3, h4⟩ => hN2 σ' H' (e4.trans eB) ⟨v, _, _, d, e', h1, h2, h3⟩)
  rintro f4 x4 σ4 H5 A4 hm4 hL4 eB4 ⟨v4, d, e, rfl, hv4, hx1, hv3⟩ hx4 N4 hN4
  -- the fourth loop
  show tFor _ _ _ _ [some v4, some x1, some x2, some v3, some x4, e, none] H5
  refine sd_forG (K := K) (Inv := fun A σ' H' => ∃ v e, σ' = [some v, some x1, some x2, some v3, some x4, e, none] ∧ Dp K H' v (.list A) ∧ Dp K H' x1 f1 ∧ Dp K H' v3 (.tuple (saidD (.int y))) ∧ Dp K H' x4 f4) (L := 3744) (g4 f1 (saidD (.int y)) f4) A4 (ds := limsD) (ei_list (ed_op (ed_lst (ds := [.none]) (es_cons ed_non es_nil) (by decide)) (ed_listRg (er_2 (K := K) (ed_int (i := 1)) (ed_int (i := 13))) (by decide)) (rd_catS (by decide)))) hL4
    (fun H6 e6 => ⟨v4, e, rfl, Dpm hv4 e6, Dpm hx1 e6, Dpm hv3 e6, Dpm hx4 e6⟩) ?_
    (fun A' σ' H1 H2 e ⟨v, e', h1, h2, h3, h4, h5⟩ => ⟨v, e', h1, Dpm h2 e, Dpm h3 e, Dpm h4 e, Dpm h5 e⟩) (fun σ' H' eB ⟨v, e', h1, h2, h3, h4, h5⟩ => hN4 σ' H' eB ⟨v, _, e', h1, h2, h3, h4⟩)
  rintro f5 x5 σ5 H6 A5 hm5 hL5 eB5 ⟨v5, e, rfl, hv5, hx1, hv3, hx4⟩ hx5 N5 hN5
  show tAsg _ _ _ [some v5, some x1, some x2, some v3, some x4, some x5, none] H6
  have tup1 : ∀ d ∈ rangeD 0 4, tupOnly d = true := fun d hd => by
    obtain ⟨k, _, rfl⟩ := List.mem_map.mp hd
    rfl
  have tup2 : ∀ d ∈ limsD, tupOnly d = true := fun d hd => by
    have : limsD.all tupOnly = true := by decide +kernel
    exact List.all_eq_true.mp this d hd
  have tup3 : ∀ d ∈ rangeD 1 3, tupOnly d = true := fun d hd => by
    obtain ⟨k, _, rfl⟩ := List.mem_map.mp hd
    rfl
  refine sd_set (K := K) (d := .list (A5 ++ g4 f1 (saidD (.int y)) f4 f5)) (ed_op (ed_var (i := 0) rfl hv5) (ed_lcM (K := K) (fun z => .tuple (([f1] ++ saidD (.int y)) ++ [f4, f5, z])) (EvI0.evI (ei0_r2 (es_cons (ed_int (i := 1)) (es_cons (ed_int (i := 4)) es_nil)) (by decide))) (by decide) (fun _ => rfl) (fun z hz => ?_) fun z hz x6 H7 e7 hx6 => ?_) (rd_catS ?_)) fun v6 H7 e7 hv6 => hN5 _ _ e7 ⟨v6, _, rfl, hv6, Dpm hx1 e7, Dpm hv3 e7, Dpm hx4 e7⟩
  · exact tupOnlyAll_app (tupOnlyAll_app (tupOnlyAll_one (tup3 _ hm1)) rfl) (by
      have a := tup1 _ hm4
      have b := tup2 _ hm5
      have c := tup3 _ hz
      show (tupOnly f4 && (tupOnly f5 && (tupOnly z && true))) = true
      rw [a, b, c]
      rfl)
  · exact ed_op (ed_op (ed_tup (es_cons (ed_var (i := 1) rfl (Dpm hx1 e7)) es_nil) (by simp)) (ed_var (i := 3) rfl (Dpm hv3 e7)) (rd_catA (by simp [saidD]))) (ed_tup (es_cons (ed_var (i := 4) rfl (Dpm hx4 e7)) (es_cons (ed_var (i := 5) rfl (Dpm hx5 e7)) (es_cons (ed_var (i := 6) rfl hx6) es_nil))) (by simp)) (rd_catA (by simp [saidD]))
  · rw [List.length_append] at hL5
    show A5.length + (g4 f1 (saidD (.int y)) f4 f5).length ≤ 100000
    omega
end
end Tlg
namespace Tlg
open PySem PySem.Spec PyProof.Rows L2
open Evl (Ex EvT EvO ex_l ex_t)
section
variable {P : Program} {w : World} {K : PySem.W.Frag} {mg : Str → Option Value} {base : Heap} {aF aS : Addr}
/-! ### the names of the errors -/
structure NTxt (K : PySem.W.Frag) (mg : Str → Option Value) (aF : Addr) (C : Nat → Addr) : Prop extends Txt K mg aF where
  c_InvalidRule : ∃ u, mg "InvalidRule" = some u ∧ RelV (.ref (C 0)) u
  c_InvalidRow : ∃ u, mg "InvalidRow" = some u ∧ RelV (.ref (C 1)) u
  c_InvalidSizes : ∃ u, mg "InvalidSizes" = some u ∧ RelV (.ref (C 2)) u
  c_InvalidNumber : ∃ u, mg "InvalidNumber" = some u ∧ RelV (.ref (C 3)) u
  c_InvalidPart : ∃ u, mg "InvalidPart" = some u ∧ RelV (.ref (C 4)) u
  c_InvalidTotals : ∃ u, mg "InvalidTotals" = some u ∧ RelV (.ref (C 5)) u
  c_InvalidSeen : ∃ u, mg "InvalidSeen" = some u ∧ RelV (.ref (C 6)) u
  c_InvalidEvent : ∃ u, mg "InvalidEvent" = some u ∧ RelV (.ref (C 7)) u
  c_NothingToUndo : ∃ u, mg "NothingToUndo" = some u ∧ RelV (.ref (C 8)) u
  c_TooMany : ∃ u, mg "TooMany" = some u ∧ RelV (.ref (C 9)) u
  c_InvalidText : ∃ u, mg "InvalidText" = some u ∧ RelV (.ref (C 10)) u
structure IsD (K : PySem.W.Frag) (C : Nat → Addr) (D : Addr) (j : Nat) : Prop where
  ec : ExcC K D
  ks : ∀ i, i < 11 → PySem.W.kitOne K (.ref D) (.ref (C i)) = some (decide (i = j))
  kv : PySem.W.kitOne K (.ref D) (.type "ValueError") = some true
def wordsD : List PD := [.str "Rule", .str "Row", .str "Sizes", .str "Number", .str "Part", .str "Totals", .str "Seen", .str "Event", .str "Undo", .str "Many", .str "Text"]
def flagsD (j : Nat) : List PD := ([.bool (decide (0 = j)), .bool (decide (1 = j)), .bool (decide (2 = j))] ++ [.bool (decide (3 = j)), .bool (decide (4 = j)), .bool (decide (5 = j))] ++ [.bool (decide (6 = j)), .bool (decide (7 = j)), .bool (decide (8 = j))]) ++ [.bool (decide (9 = j)), .bool (decide (10 = j))]
def fW : PD → Bool
  | .tuple [_, .bool b] => b
  | _ => false
def wW : PD → PD
  | .tuple [a, _] => a
  | x => x
def GD (D : Addr) : Addr × Obj → List V → Prop := fun p vs => vs = [.ref p.1] ∧ L2N.Zn (.ref D) none p.2 ∧ ∃ fs, p.2.data = .fields fs
def spName (wd : Str) : Sp := fun vs H Q _ => vs.length = 1 ∧ ∀ H', Ex H H' → Q (.str (wd ++ "+")) H'
/-! _law_name_of: 0 _law_e, 1 _law_matching, 2 _law_words, 3 _law_found, 4 _law_word, 5 _law_good -/
abbrev s__law_name_of : Stmt := topS 41
theorem sc__law_name_of : FnScope ["_law_e", "_law_matching", "_law_words", "_law_found", "_law_word", "_law_good"] ["_law_e"] (defScope s__law_name_of) := by
  exact ⟨rfl, rfl, rfl, by decide +kernel, rfl, by decide +kernel, by decide +kernel⟩

theorem cal__law_name_of {C : Nat → Addr} {D : Addr} {j : Nat} {wd : Str} (T : NTxt K mg aF C) (F : DefK K mg "_law_name_of" s__law_name_of ["_law_e"]) (hD : IsD K C D j) (hw : ((zipD wordsD (flagsD j)).filter fW).map wW = [.str wd]) (hwl : wd.length ≤ 100) :
    CalP (GD D) P w K mg base 1 "_law_name_of" (spName wd) := by
  obtain ⟨f, fd, F, m, b⟩ := F.ex
  refine ⟨f, fd, _, ?_, m, F.kp, b⟩
  obtain ⟨oc, od, kV, doc, pm, an, cdv, ct, osl, rfl, lk, hcd⟩ := F.ex
  refine fn_ofP lk hcd sc__law_name_of (fun vs H Q E h => h.1) fun A outer s H vs Q E p hot1 hG hr h => ?_
  have nd := sc__law_name_of.nd
  obtain ⟨a, oe⟩ := p
  obtain ⟨rfl, hz, hf⟩ := hG
  have hz' : Zc (.ref D) none oe := hz.zc
  obtain ⟨_, q⟩ := h
  have hot : L2H.HotC (L2H.cxH C8.CX0 P w K mg base ["_law_e", "_law_matching", "_law_words", "_law_found", "_law_word", "_law_good"] "_law_name_of" (defScope s__law_name_of) f cdv A outer s H E (a, oe)) := ⟨(a, oe), hot1, List.mem_singleton.mpr rfl⟩
  have isE : CallR (L2H.cxH C8.CX0 P w K mg base ["_law_e", "_law_matching", "_law_words", "_law_found", "_law_word", "_law_good"] "_law_name_of" (defScope s__law_name_of) f cdv A outer s H E (a, oe)) (.builtin "isinstance") (rIsE K D a) := call_isP (List.mem_singleton.mpr rfl) hD.ec hz' hf
  refine ⟨_, ((pss_cons (ps_set (i := 1) nd rfl (Or.inl rfl) (pe_lst (pa_cons (pe_callB isE (by rfl) T.b_isinstance bb_isinstance (pa_cons (pv 0) (pa_cons (C8.pe_gc (by rfl) T.c_InvalidRule) pa_nil))) (pa_cons (pe_callB isE (by rfl) T.b_isinstance bb_isinstance (pa_cons (pv 0) (pa_cons (C8.pe_gc (by rfl) T.c_InvalidRow) pa_nil))) (pa_cons (pe_callB isE (by rfl) T.b_isinstance bb_isinstance (pa_cons (pv 0) (pa_cons (C8.pe_gc (by rfl) T.c_InvalidSizes) pa_nil))) pa_nil))))) 
    (pss_cons (ps_set (i := 1) nd rfl (Or.inl rfl) (pe_op (op_catSK K rfl) (pv 1) (pe_lst (pa_cons (pe_callB isE (by rfl) T.b_isinstance bb_isinstance (pa_cons (pv 0) (pa_cons (C8.pe_gc (by rfl) T.c_InvalidNumber) pa_nil))) (pa_cons (pe_callB isE (by rfl) T.b_isinstance bb_isinstance (pa_cons (pv 0) (pa_cons (C8.pe_gc (by rfl) T.c_InvalidPart) pa_nil))) (pa_cons (pe_callB isE (by rfl) T.b_isinstance bb_isinstance (pa_cons (pv 0) (pa_cons (C8.pe_gc (by rfl) T.c_InvalidTotals) pa_nil))) pa_nil)))))) 
    (pss_cons (ps_set (i := 1) nd rfl (Or.inl rfl) (pe_op (op_catSK K rfl) (pv 1) (pe_lst (pa_cons (pe_callB isE (by rfl) T.b_isinstance bb_isinstance (pa_cons (pv 0) (pa_cons (C8.pe_gc (by rfl) T.c_InvalidSeen) pa_nil))) (pa_cons (pe_callB isE (by rfl) T.b_isinstance bb_isinstance (pa_cons (pv 0) (pa_cons (C8.pe_gc (by rfl) T.c_InvalidEvent) pa_nil))) (pa_cons (pe_callB isE (by rfl) T.b_isinstance bb_isinstance (pa_cons (pv 0) (pa_cons (C8.pe_gc (by rfl) T.c_NothingToUndo) pa_nil))) pa_nil)))))) 
    (pss_cons (ps_set (i := 1) nd rfl (Or.inl rfl) (pe_op (op_catSK K rfl) (pv 1) (pe_lst (pa_cons (pe_callB isE (by rfl) T.b_isinstance bb_isinstance (pa_cons (pv 0) (pa_cons (C8.pe_gc (by rfl) T.c_TooMany) pa_nil))) (pa_cons (pe_callB isE (by rfl) T.b_isinstance bb_isinstance (pa_cons (pv 0) (pa_cons (C8.pe_gc (by rfl) T.c_InvalidText) pa_nil))) pa_nil))))) 
    (pss_cons (ps_set (i := 2) nd rfl (Or.inl rfl) (pe_lst (pa_cons pe_str (pa_cons pe_str (pa_cons pe_str (pa_cons pe_str (pa_cons pe_str (pa_cons pe_str (pa_cons pe_str (pa_cons pe_str (pa_cons pe_str (pa_cons pe_str (pa_cons pe_str pa_nil))))))))))))) 
    (pss_cons (ps_setLcH (i := 3) (own := [("_law_word", 4), ("_law_good", 5)]) hot nd rfl rfl (sw_true rfl rfl rfl (by decide +kernel)) (pi_zipHK K rfl (by rfl) T.b_zip (pa_cons (pv 2) (pa_cons (pv 1) pa_nil))) (blkOk_by (own := [("_law_word", 4), ("_law_good", 5)]) (by kernel_rfl)) (fun _ _ _ _ _ => (pg_tupH K 2 rfl hot (pgs_cons (pg_name (i := 4) nd rfl (Or.inl rfl)) (pgs_cons (pg_name (i := 5) nd rfl (Or.inl rfl)) pgs_nil)))) (fun _ _ _ _ _ => pts_one (pt_val (pv 5))) (fun _ _ _ _ _ => (pv 4))) 
    (pss_one (ps_ret (pe_op op_add_str (pe_join pe_str (pv 3)) (pe_ifExp (pt_val (pe_callB isE (by rfl) T.b_isinstance bb_isinstance (pa_cons (pv 0) (pa_cons (pe_bltn (v := .ty "ValueError") (by rfl) T.b_ValueError bb_ValueError rfl) pa_nil)))) pe_str pe_str))))))))))), ?_⟩
  have is : ∀ (i : Nat) {σ : L2.St} {H1 : Hp}, i < 11 → σ[0]? = some (some (.ref a)) → EvD K (tCB (rIsE K D a) (tCons (tVar 0) (tCons (tC (.ref (C i))) tNil))) σ H1 (.bool (decide (i = j))) := fun i σ H1 hi h0 H2 e Q q => ⟨.ref a, h0, _, _, _, rfl, fun u r => r, hD.ks i hi, q _ H2 (Ex.refl H2) (.bl _)⟩
  refine sq_set (K := K) (ed_lst (es_cons (is 0 (by decide) rfl) (es_cons (is 1 (by decide) rfl) (es_cons (is 2 (by decide) rfl) es_nil))) (by simp)) fun v1 H1 e1 h1 => ?_
  refine sq_set (K := K) (ed_op (ed_var (i := 1) rfl h1) (ed_lst (es_cons (is 3 (by decide) rfl) (es_cons (is 4 (by decide) rfl) (es_cons (is 5 (by decide) rfl) es_nil))) (by simp)) (rd_catS (by simp))) fun v2 H2 e2 h2 => ?_
  refine sq_set (K := K) (ed_op (ed_var (i := 1) rfl h2) (ed_lst (es_cons (is 6 (by decide) rfl) (es_cons (is 7 (by decide) rfl) (es_cons (is 8 (by decide) rfl) es_nil))) (by simp)) (rd_catS (by simp))) fun v3 H3 e3 h3 => ?_
  refine sq_set (K := K) (d := .list (flagsD j)) (ed_op (ed_var (i := 1) rfl h3) (ed_lst (es_cons (is 9 (by decide) rfl) (es_cons (is 10 (by decide) rfl) es_nil)) (by simp)) (rd_catS (by simp))) fun v4 H4 e4 h4 => ?_
  refine sq_set (K := K) (d := .list wordsD) (ed_lst (es_cons ed_str (es_cons ed_str (es_cons ed_str (es_cons ed_str (es_cons ed_str (es_cons ed_str (es_cons ed_str (es_cons ed_str (es_cons ed_str (es_cons ed_str (es_cons ed_str es_nil))))))))))) (by decide)) fun v5 H5 e5 h5 => ?_
  have pairs : ∀ d ∈ zipD wordsD (flagsD j), ∃ w0 b0, d = .tuple [.str w0, .bool b0] := fun d hd => by
    simp only [wordsD, flagsD, zipD, List.cons_append, List.nil_append, List.mem_cons, List.not_mem_nil, or_false] at hd
    rcases hd with h | h | h | h | h | h | h | h | h | h | h <;> exact ⟨_, _, h⟩
  refine sq_set (K := K) (d := .list [.str wd]) ((ed_lc2 (K := K) fW wW (ei_zipH (es_cons (ed_var (i := 2) rfl h5) (es_cons (ed_var (i := 1) rfl (Dpm h4 e5)) es_nil))) (by rw [zipD_len]; show min 11 11 ≤ 100000; decide) (fun d hd => by obtain ⟨_, _, e⟩ := pairs d hd; exact ⟨_, _, e⟩) (fun _ _ => rfl)
    (fun d hd _ => by obtain ⟨_, _, rfl⟩ := pairs d hd; rfl) (fun d1 d2 hd x y H6 e6 hx hy => ?_) fun d1 d2 hd _ x y H6 e6 hx hy => ed_var (i := 4) rfl hx).is (by rw [hw])) fun v6 H6 e6 h6 => ?_
  · obtain ⟨w0, b0, e⟩ := pairs _ hd
    cases e
    exact et_B (ed_var (i := 5) rfl hy)
  have e16 := ((((e1.trans e2).trans e3).trans e4).trans e5).trans e6
  refine sd_ret (K := K) (d := .str (wd ++ "+")) (ed_op (d := .str wd) (e := .str "+") (fun H7 e7 Q q => ⟨⟨_, rfl⟩, v6, rfl, ?_⟩) (ed_if (K := K) (b := true) (et_B (K := K) (fun H7 e7 Q q => ⟨.ref a, rfl, _, _, _, rfl, fun u r => r, hD.kv, q _ H7 (Ex.refl H7) (.bl _)⟩)) (fun _ => ed_str) fun z => by cases z) (fun H7 v u hv hu Q q => ?_)) fun v H7 e7 hv => by cases hv; exact q H7 (e16.trans e7)
  · have h7 := Dpm h6 e7
    cases h7 with
    | @lst pl xs _ hs ha =>
      have e := dpa_strs (bs := [wd]) ha
      subst e
      refine ⟨"", pl, [wd], rfl, rfl, .inl hs, by show (wd.length + 0) + 1 * 0 ≤ 16777216; omega, ?_⟩
      have hj : Txt.join "" [wd] = wd := by
        show Builtin.Str.glued "" [wd] = wd
        rw [StrLaws.glued_eq_join]
        rfl
      rw [hj]
      exact q _ H7 (Ex.refl H7) (.str wd)
  · cases hv; cases hu
    exact ⟨wd, "+", rfl, rfl, by rw [sizeLine_eq]; show wd.length + 1 ≤ _; omega, q _ H7 (Ex.refl H7) (.str _)⟩
/-! ### _law_try -/
/-! _law_try: 0 _law_door, 1 _law_found, 2 _law_e -/
abbrev s__law_try : Stmt := topS 42
theorem sc__law_try : FnScope ["_law_door", "_law_found", "_law_e"] ["_law_door"] (defScope s__law_try) := by
  exact ⟨rfl, rfl, rfl, by decide +kernel, rfl, by decide +kernel, by decide +kernel⟩

/-- the lambda raises an error of the class D; the answer is the text out -/
def TTry (D : Addr) (out : Str) : (XK → Hp → VK → Prop) → Hp → VK → Prop := fun tl H Q => ∀ (E' : XK) (Q' : VK), (∀ H', (∀ H'', Ex H' H'' → Q (.str out) H'') → E' (.ref D) none H') → tl E' H Q'
theorem pe_wk {X : Cx} {e : Expr} {t t' : TE} (h : PE X e t) (hw : ∀ σ H Q, t' σ H Q → t σ H Q) : PE X e t' := ⟨fun pins s σ H Q I q => h.run pins s σ H Q I (hw σ H Q q)⟩
theorem gives_try {X : Cx} {D cL g : Addr} {cdg : Value} {wd q : Str} (C_name : CalP (GD D) X.prog X.w X.K X.mg X.base 1 "_law_name_of" (spName wd)) (gL : X.mg "LogError" = some (.ref cL)) (eL : PySem.W.exmOne X.K (.ref D) (.ref cL) = some true) (hrX : Room 3 X.A) :
    GivesToN X ["_law_door", "_law_found", "_law_e"] "_law_try" (defScope s__law_try) g cdg (defBody s__law_try) "_law_door" q (TTry D (wd ++ "+")) := by
  intro f c' s H Q tl act hc h
  have nd := sc__law_try.nd
  refine ⟨_, (pss_cons (ps_set (i := 1) nd rfl (Or.inl rfl) pe_non) (pss_cons (L2N.ps_try_as (X := (cxOf C8.CX0 X.prog X.w X.K X.mg X.base ["_law_door", "_law_found", "_law_e"] "_law_try" (defScope s__law_try) g cdg X.A X.stack s H C8.E0).nox) (i := 2) (c := .ref cL)
      (ts := fun a cls d => tAsg (fun σ H Q => σ[2]? = some (some (.ref a)) ∧ cls = .ref D ∧ d = none ∧ ∀ H', Ex H H' → Q (.str (wd ++ "+")) H') (gName 1)) (Wout := fun _ _ _ _ => False) rfl rfl nd rfl rfl ⟨by rfl, by decide, .inl gL⟩ takesN0
      (fun W pn xe tk _ => pss_one (ps_set (i := 1) nd rfl (Or.inl rfl) (pe_tup (pa_cons pe_str (pa_cons (act W pn xe _ _ tk) pa_nil)))))
      (fun a oe cls d pn hz hf => pss_one (ps_set (i := 1) nd rfl (Or.inl rfl) ?_))) (pss_one (ps_ret (pv 1))))), ?_⟩
  · obtain ⟨vs, hvs⟩ := hf
    refine pe_wk (pe_cP (j := 2) (p := (a, oe)) (x := "_law_name_of") C_name ?_ (by decide) ⟨rfl, vs, hvs, hz.2.2 vs hvs⟩ List.mem_cons_self (by rfl) (pa_cons (pv 2) pa_nil)) fun σ H1 Q1 h1 => ?_
    · have r := hrX.deeper (envOfC "_law_try" (defScope s__law_try) s.heap.objs.size g cdg)
      exact ⟨r.dp, r.un⟩
    · obtain ⟨h2, rfl, rfl, q1⟩ := h1
      exact ⟨_, h2, ⟨rfl, hz, vs, hvs⟩, rfl, q1⟩
  · exact ⟨rfl, hc, h _ _ fun H' hq => ⟨true, eL, fun _ a ha => ⟨rfl, rfl, rfl, fun H'' e => ⟨_, rfl, hq H'' e⟩⟩, fun z => by cases z⟩⟩
end
end Tlg
namespace Tlg
open PySem PySem.Spec PyProof.Rows L2
open Evl (Ex EvT EvO ex_l ex_t)
section
variable {P : Program} {w : World} {K : PySem.W.Frag} {mg : Str → Option Value} {base : Heap} {aF aS : Addr}
/-! ### more data -/
theorem dpall_rep {H : Hp} {vs : List V} {ds : List PD} (h : DpAll K H vs ds) : ∀ n : Nat, DpAll K H (List.replicate n vs).flatten (List.replicate n ds).flatten
  | 0 => .nil
  | n + 1 => by
    rw [List.replicate_succ, List.replicate_succ, List.flatten_cons, List.flatten_cons]
    exact h.append (dpall_rep h n)
theorem ed_rep {tl : TA} {σ : L2.St} {H : Hp} {ds : List PD} {k : Int} (h : EvS K tl σ H ds) (h1 : 0 ≤ k) (h2 : k ≤ 1000) (hl : ds.length * k.toNat ≤ 100000) (hl2 : ds.length ≤ 100000) : EvD K (tOp rRep (tLst tl) (tC (.int k))) σ H (.list (List.replicate k.toNat ds).flatten) := fun H1 e Q q =>
  h H1 e _ fun vs H2 e2 hs => ⟨Evl.sz_of (by rw [hs.length]; exact hl2), fun p hp => ⟨p, k, vs, rfl, rfl, upd_same, by omega, by omega, Evl.sz_of (by rw [hs.length]; exact hl), newL (dpall_rep (Dpam hs (Ex.new hp)) _) fun z H3 e3 hz => q z H3 ((e2.trans (Ex.new hp)).trans e3) hz⟩⟩
theorem rd_repT {ds : List PD} {k : Int} (hne : ds ≠ []) (h1 : 2 ≤ k) (h2 : k ≤ 1000) (hl : ds.length ≤ 1000) : RD K (rRepT K) (.tuple ds) (.int k) (.tuple (List.replicate k.toNat ds).flatten) := fun H v u hv hu Q q => by
  cases hu
  cases hv with
  | @tup a xs _ hs ha =>
    have l := ha.length
    refine ⟨a, k, xs, rfl, rfl, hs, fun z => hne (List.length_eq_zero_iff.mp (by rw [← l, z]; rfl)), h1, h2, by omega, newT (dpall_rep ha _) q⟩
theorem rd_neS {i j : Str} : RD K rNe (.str i) (.str j) (.bool (!decide (i = j))) := fun H v u hv hu Q q => by
  cases hv; cases hu
  refine ⟨rfl, ?_⟩
  have e : decide (V.str i = V.str j) = decide (i = j) := by simp
  rw [e]
  exact q _ H (Ex.refl H) (.bl _)
/-! ### data beside tables of code objects -/
theorem extN_l {H H' : Hp} {a : Addr} {xs : List V} (e : LamX.ExtN H H') (h : SqL K H a xs) : SqL K H' a xs := by
  rcases h with h | h
  · rcases h with h | ⟨o, h⟩
    · exact .inl (.inl (e a _ h fun ps z => by cases z))
    · exact .inl (.inr ⟨o, e a _ h fun ps z => by cases z⟩)
  · exact .inr h
theorem extN_t {H H' : Hp} {a : Addr} {xs : List V} (e : LamX.ExtN H H') (h : SqT K H a xs) : SqT K H' a xs := by
  rcases h with h | h
  · rcases h with h | ⟨o, h⟩
    · exact .inl (.inl (e a _ h fun ps z => by cases z))
    · exact .inl (.inr ⟨o, e a _ h fun ps z => by cases z⟩)
  · exact .inr h
mutual
theorem dp_extN {K : PySem.W.Frag} {H H' : Hp} (e : LamX.ExtN H H') : ∀ (d : PD) (v : V), Dp K H v d → Dp K H' v d
  | .none, _, h => by cases h; exact .non
  | .bool _, _, h => by cases h; exact .bl _
  | .int _, _, h => by cases h; exact .int _
  | .str _, _, h => by cases h; exact .str _
  | .list ds, _, h => by
    cases h with
    | lst hs ha => exact .lst (extN_l e hs) (dpa_extN e ds _ ha)
  | .tuple ds, _, h => by
    cases h with
    | tup hs ha => exact .tup (extN_t e hs) (dpa_extN e ds _ ha)
  | .dict _, _, h => by cases h
theorem dpa_extN {K : PySem.W.Frag} {H H' : Hp} (e : LamX.ExtN H H') : ∀ (ds : List PD) (vs : List V), DpAll K H vs ds → DpAll K H' vs ds
  | [], _, h => by cases h; exact .nil
  | d :: ds, _, h => by
    cases h with
    | cons h1 h2 => exact .cons (dp_extN e d _ h1) (dpa_extN e ds _ h2)
end
theorem pe_cXE {X : Cx} {k j : Nat} {x : Str} {sp : Sp} {p pos : Pos} {e1 : Expr} {es1 : List Expr} {t : TA} {E : XK} (c : CalX X.prog X.w X.K X.mg X.base k x sp) (hr : Room j X.A) (hk : k ≤ j) (hx : Passes (L2N.CX X.prog X.w) X E) (hg : Gl X x) (ha : PA X (e1 :: es1) t) (hdb : (x == ("__debug__" : Str)) = false := by decide)
    (he : starEach (e1 :: es1) X.env = (false, eval e1 X.env) :: starEach es1 X.env := by rfl) (hpl : (backTo pos (starEach es1 X.env)).any (·.1) = false := by rfl) : PE X (.Call (.Name x p) (e1 :: es1) [] pos) (tCall sp [] E t) := by
  obtain ⟨f, fd, ps, F, hm, kp, b⟩ := c.ex
  exact pe_call F (hr.mono hk) hg hm kp b .nil hx ha hdb he hpl
/-! ### the law -/
theorem row_ok {es : List Evt} (h : es.length ≤ 60) : isRowOf (rowD es) = true := by
  show (decide (((rowS es).length : Int) ≤ 60) && (rowS es).cps.toList.all _) = true
  have l : (rowS es).length = es.length := by
    show (es.map Evt.cp).toArray.size = _
    simp
  rw [l, decide_eq_true (by omega), Bool.true_and, List.all_eq_true]
  intro c hc
  obtain ⟨e, _, rfl⟩ := List.mem_map.mp (show c ∈ es.map Evt.cp from hc)
  cases e <;> decide
theorem sz_ok {l : List Int} (h1 : 1 ≤ l.length) (h2 : l.length ≤ 4) (h : ∀ x ∈ l, 0 ≤ x ∧ x ≤ 4) : areSizes (szD l) = true := by
  show ((decide ((1 : Int) ≤ ((l.map PyData.int).length : Int)) && decide (((l.map PyData.int).length : Int) ≤ 4)) && (l.map PyData.int).all fun d => isFrom d 0 4) = true
  rw [List.length_map, decide_eq_true (by omega), decide_eq_true (by omega), Bool.true_and, Bool.true_and, List.all_eq_true]
  intro d hd
  obtain ⟨i, hi, rfl⟩ := List.mem_map.mp hd
  obtain ⟨a, b⟩ := h i hi
  show (decide (0 ≤ i) && decide (i ≤ 4)) = true
  rw [decide_eq_true a, decide_eq_true b]
  rfl
theorem seen_ok {l : Seen} (g : GoodSeen l) (h : ∀ p ∈ l, ∀ x ∈ p.2, 0 ≤ x ∧ x ≤ 4) : okSeen (seenD l) = true := by
  show (!decide ((6 : Int) < ((l.map pairD).length : Int)) && ((l.map pairD).all pairOk && (l.map pairD).all rowOk)) = true
  have hl := g.len
  rw [List.length_map, decide_eq_false (by omega)]
  have a : (l.map pairD).all pairOk = true := by
    rw [List.all_eq_true]
    intro d hd
    obtain ⟨p, _, rfl⟩ := List.mem_map.mp hd
    rfl
  have b : (l.map pairD).all rowOk = true := by
    rw [List.all_eq_true]
    intro d hd
    obtain ⟨p, hp, rfl⟩ := List.mem_map.mp hd
    show (isRowOf (rowD p.1) && areSizes (szD p.2)) = true
    rw [row_ok (g.row p hp), sz_ok (g.sz p hp).1 (g.sz p hp).2 (h p hp)]
    rfl
  rw [a, b]
  rfl
theorem seen_small {l : Seen} (g : GoodSeen l) : smallSeen (seenD l) := fun m e a b hm => by
  cases e
  obtain ⟨p, hp, e⟩ := List.mem_map.mp hm
  cases e
  show (rowS p.1).length ≤ 1000
  have := g.row p hp
  show (p.1.map Evt.cp).toArray.size ≤ 1000
  simp
  omega
structure Seen1 (l : Seen) : Prop where
  g : GoodSeen l
  z : ∀ p ∈ l, ∀ x ∈ p.2, 0 ≤ x ∧ x ≤ 4
theorem ed_rf {tl : TA} {σ : L2.St} {H : Hp} {l : Seen} {E : XK} (g : Seen1 l) (h : EvS K tl σ H [seenD l]) : EvD K (tCall (spRF K aS) [] E tl) σ H (.list ((rulesAll.filter (fits l)).map ruleD)) := fun H1 e Q q =>
  h H1 e _ fun vs H2 e2 hs => by
    show spRF K aS (vs ++ []) H2 Q E
    rw [List.append_nil]
    have hbad : okSeen (seenD l) = false → ∀ H', Ex H2 H' → E (.ref aS) none H' := fun z => by
      rw [seen_ok g.g g.z] at z
      cases z
    exact ⟨seenD l, hs, seen_small g.g, hbad, fun _ => ⟨l, g.g, rfl, fun v H3 e3 hv => q v H3 (e2.trans e3) hv⟩⟩
theorem ruleD_shp (r : Rule) : Shp 1 (ruleD r) := shp_tup fun d hd => by
  simp only [List.mem_cons, List.not_mem_nil, or_false] at hd
  rcases hd with rfl | rfl | rfl | rfl | rfl | rfl | rfl
  · exact shp_int
  · exact shp_bool
  · exact shp_bool
  · exact shp_bool
  · exact shp_int
  · cases r.pages
    · exact shp_none
    · exact shp_int
  · exact shp_int
theorem ruleD_flat (r : Rule) : flatN 2 (ruleD r) := ⟨by show 7 ≤ 100000; decide, fun d hd => by
  simp only [List.mem_cons, List.not_mem_nil, or_false] at hd
  rcases hd with rfl | rfl | rfl | rfl | rfl | rfl | rfl
  · trivial
  · trivial
  · trivial
  · trivial
  · trivial
  · cases r.pages <;> trivial
  · trivial⟩
theorem eqv_rule (r : Rule) : PyData.eqv (ruleD r) (ruleD r) = true := by
  obtain ⟨s, e, dl, em, k, p, f⟩ := r
  cases p <;> simp [ruleD, optD, PyData.eqv, PyData.eqvAll]
theorem mem_rules {r : Rule} (o : r.Ok) : r ∈ rulesAll := by
  obtain ⟨s, e, dl, em, k, p, f⟩ := r
  obtain ⟨h1, h2, h3, h4, h5, h6, h7⟩ := o
  simp only at h1 h2 h3 h4 h5 h6 h7
  have es : s = 1 ∨ s = 2 ∨ s = 3 := by omega
  have ek : k = 0 ∨ k = 1 ∨ k = 2 ∨ k = 3 := by omega
  have ef : f = 1 ∨ f = 2 ∨ f = 3 := by omega
  have ep : p ∈ ([none, some 1, some 2, some 3, some 4, some 5, some 6, some 7, some 8, some 9, some 10, some 11, some 12] : List (Option Int)) := by
    cases p with
    | none => simp
    | some q =>
      have := h5 q rfl
      have : q = 1 ∨ q = 2 ∨ q = 3 ∨ q = 4 ∨ q = 5 ∨ q = 6 ∨ q = 7 ∨ q = 8 ∨ q = 9 ∨ q = 10 ∨ q = 11 ∨ q = 12 := by omega
      simp only [List.mem_cons, Option.some.injEq, List.not_mem_nil, or_false, reduceCtorEq, false_or]
      exact this
  unfold rulesAll
  refine List.mem_flatMap.mpr ⟨s, by simpa using es, List.mem_flatMap.mpr ⟨e, by cases e <;> simp, List.mem_flatMap.mpr ⟨dl, by cases dl <;> simp, List.mem_flatMap.mpr ⟨em, by cases em <;> simp, List.mem_flatMap.mpr ⟨k, by simpa using ek, List.mem_flatMap.mpr ⟨p, ep, List.mem_map.mpr ⟨f, by simpa using ef, rfl⟩⟩⟩⟩⟩⟩⟩
theorem many0 : ((rulesAll.filter (fits [])).map ruleD).length = 3744 := by
  rw [List.length_map]
  decide +kernel
theorem many1 : ((rulesAll.filter (fits [([.a], [0])])).map ruleD).length = 156 := by
  rw [List.length_map]
  decide +kernel
def oddsD : List PD := [.none, .list [], .tuple [.int 1], .tuple [.tuple [.str "x", .tuple [.int 0]]], .tuple [.tuple [.str "a", .tuple [.int 5]]], .tuple [.tuple [.str "a", .tuple []]], .tuple (List.replicate (7 : Int).toNat [PyData.tuple [.str "", .tuple [.int 0]]]).flatten, .tuple [.tuple [.str "a", .tuple [.int 0], .int 1]]]
theorem odds_bad : oddsD.all (fun d => !okSeen d) = true := by decide +kernel
theorem odds_small : ∀ d ∈ oddsD, smallSeen d := fun d hd l e a b hm => by
  simp only [oddsD, List.mem_cons, List.not_mem_nil, or_false] at hd
  rcases hd with rfl | rfl | rfl | rfl | rfl | rfl | rfl | rfl
  · cases e
  · cases e
  · cases e
    simp at hm
  · cases e
    simp at hm
    rw [hm.1]
    show Str.length _ ≤ 1000
    decide
  · cases e
    simp at hm
    rw [hm.1]
    show Str.length _ ≤ 1000
    decide
  · cases e
    simp at hm
    rw [hm.1]
    show Str.length _ ≤ 1000
    decide
  · cases e
    have : PyData.tuple [a, b] = .tuple [.str "", .tuple [.int 0]] := by
      have h : ∀ d ∈ (List.replicate (7 : Int).toNat [PyData.tuple [.str "", .tuple [.int 0]]]).flatten, d = PyData.tuple [.str "", .tuple [.int 0]] := fun d hd => by
        obtain ⟨m, hm, hd⟩ := List.mem_flatten.mp hd
        rw [(List.mem_replicate.mp hm).2] at hd
        exact List.mem_singleton.mp hd
      exact h _ hm
    cases this
    show Str.length _ ≤ 1000
    decide
  · cases e
    simp at hm
end
end Tlg
namespace Tlg
open PySem PySem.Spec PyProof.Rows L2
open Evl (Ex EvT EvO ex_l ex_t)
section
variable {P : Program} {w : World} {K : PySem.W.Frag} {mg : Str → Option Value} {base : Heap} {aF aS : Addr}
/-! ### the law itself -/
/-- where the law's walk ends: the last sizes -/
theorem ed_last {tr ts : TE} {σ : L2.St} {H : Hp} {r : Rule} {es : List Evt} {E : XK} (ok : r.Ok) (hl : es.length ≤ 1000) (h1 : EvD K tr σ H (ruleD r)) (h2 : EvD K ts σ H (rowD es)) :
    EvD K (tOp (rIxL K) (tOp (rCatS K) (tLst (tCons (tTup (tCons (tC (.int 0)) tNil)) tNil)) (tCall (PF K R_went) [] E (tCons tr (tCons (tTup (tCons (tC (.int 0)) tNil)) (tCons ts tNil))))) (tUn (rU fun i => .int (-i)) (tC (.int 1)))) σ H (szD (behind r es)) := by
  have z0 : EvD K (tTup (tCons (tC (.int 0)) tNil)) σ H (szD [0]) := ed_tup (es_cons ed_int es_nil) (by simp)
  refine ed_op (ed_op (ed_lst (es_cons z0 es_nil) (by simp)) (ed_call (es_cons h1 (es_cons z0 (es_cons h2 es_nil))) ⟨r, [0], es, ok, Good.first ok, hl, rfl, rfl⟩) (rd_catS ?_)) (ed_un ed_int) (rd_ixL ?_)
  · rw [List.length_map, walk_length]
    show 1 + _ ≤ _
    omega
  · refine at_last ?_
    show (szD [0] :: (walkFrom r [0] es).map szD).getLast? = some (szD (behind r es))
    rw [← List.map_cons, List.getLast?_map, last_walk]
    rfl
theorem sq_forTup {te : TE} {g : TG} {tu tz : TS} {D : Ends} {σ : L2.St} {H : Hp} {ds : List PD} (h : EvD K te σ H (.tuple ds))
    (k : ∀ a xs H1, Ex H H1 → SqT K H1 a xs → DpAll K H1 xs ds → ∃ W : Nat → Nat → L2.St → Hp → Prop, (∃ m, W 0 m σ H1) ∧ ∀ i m σ H, W i m σ H → ((Itt K a).stop i H ∧ tz D σ H) ∨ ((Itt K a).go i H ∧ ∃ N : L2.St → Hp → Prop, (∀ σ' H', N σ' H' → ∃ m', m' < m ∧ W (i + 1) m' σ' H') ∧ ∀ x H', (Itt K a).yld i H x H' → g x σ H' fun σ2 H2 => tu { D with nx := N, ct := N, bk := tz D } σ2 H2)) :
    tSeq (tFor (iTup K te) g tu) tz D σ H := h H (Ex.refl H) _ fun v H1 e1 hv => by
  cases hv with
  | @tup a xs _ hs ha => exact ⟨a, rfl, ⟨xs, hs⟩, k a xs H1 e1 hs ha⟩
/-! law: 0 _law_script, 1 _law_every_here, 2 _law_k, 3 _law_deck_here, 4 _law_r, 5 _law_seen, 6 _law_turn, 7 _law_song_here, 8 _law_due, 9 _law_one, 10 _law_found, 11 _law_odd, 12 _law_line -/
abbrev s_law : Stmt := topS 51
theorem sc_law : FnScope ["_law_script", "_law_every_here", "_law_k", "_law_deck_here", "_law_r", "_law_seen", "_law_turn", "_law_song_here", "_law_due", "_law_one", "_law_found", "_law_odd", "_law_line"] ["_law_script"] (defScope s_law) := by
  exact ⟨rfl, rfl, rfl, by decide +kernel, rfl, by decide +kernel, by decide +kernel⟩

def spLaw (K : PySem.W.Frag) (Pt : Addr) : Sp := fun vs H Q _ => ∃ (a : Addr) (ns : List Int), vs = [.ref a] ∧ SqL K H a (ns.map V.int) ∧ ns.length ≤ 63 ∧ H Pt = some (.tbl #[]) ∧ ∀ H', Q (.bl true) H'
def notFit (r : Rule) : PD → Bool
  | .tuple [.str a, b] => !decide (behind r (unRow a) = unSz b)
  | _ => false
theorem notFit_fits (r : Rule) (l : Seen) : PyData.eqv (.list (((l.map pairD).filter (notFit r)).map fun _ => PyData.int 1)) (.list []) = fits l r := by
  have e : ∀ p : List Evt × List Int, notFit r (pairD p) = !decide (behind r p.1 = p.2) := fun p => by
    show (!decide (behind r (unRow (rowS p.1)) = unSz (szD p.2))) = _
    rw [unRow_rowS, unSz_szD]
  by_cases h : fits l r = true
  · have hn : (l.map pairD).filter (notFit r) = [] := List.filter_eq_nil_iff.mpr fun d hd => by
      obtain ⟨p, hp, rfl⟩ := List.mem_map.mp hd
      rw [e, List.all_eq_true.mp h p hp]
      decide
    rw [hn, h]
    rfl
  · have hf : fits l r = false := by simpa using h
    obtain ⟨p, hp, hq⟩ := List.all_eq_false.mp hf
    rw [hf]
    have hm : pairD p ∈ (l.map pairD).filter (notFit r) := List.mem_filter.mpr ⟨List.mem_map.mpr ⟨p, hp, rfl⟩, by
      rw [e]
      simpa using hq⟩
    cases hc : (l.map pairD).filter (notFit r) with
    | nil => rw [hc] at hm; cases hm
    | cons x xs => rfl
theorem ofNox {X : Cx} {b : List Stmt} {D : Ends} {σ : L2.St} {H : Hp} (h : ∃ t, PSs X.nox b t ∧ t D σ H) : ∃ t, PSs X b t ∧ t D σ H := let ⟨t, a, b⟩ := h; ⟨t, a.nox, b⟩
abbrev TTl (aS : Addr) := TTry aS ("Seen" ++ "+")
theorem ok_law (T : Txt K mg aF) {fa c Pt cL : Addr} {oc kV doc pm ct : Value} {od an : Option Addr} {osl : Array (Option Value)} (lk : K.lookup fa = some ⟨oc, od, .func (PySem.W.fnOf "law" "law" (defArgs s_law) (defBody s_law) (defScope s_law) .none kV doc pm an (.ref c) ct), osl⟩)
    (hcd : PySem.W.codeIn K (.ref c) "law" = true) (TB : LamX.TabB base mg c Pt)
    (C__law_every : C8.Cal P w K mg base 1 "_law_every" (PF K R_law_every) []) (C__law_deck : C8.Cal P w K mg base 1 "_law_deck" spDeck []) (C__law_rule : C8.Cal P w K mg base 2 "_law_rule" (spRule K) [])
    (C__law_pick : C8.Cal P w K mg base 1 "_law_pick" spPick []) (C__law_song : C8.Cal P w K mg base 2 "_law_song" spSong []) (C__law_went : C8.Cal P w K mg base 3 "_law_went" (PF K R_went) []) (C_rules_for : CalX P w K mg base 6 "rules_for" (spRF K aS))
    (C__law_same : C8.Cal P w K mg base 4 "_law_same" (PF K (R_same 3)) []) (C_name : CalP (GD aS) P w K mg base 1 "_law_name_of" (spName "Seen")) (F_try : DefK K mg "_law_try" s__law_try ["_law_door"])
    (gL : mg "LogError" = some (.ref cL)) (eL : PySem.W.exmOne K (.ref aS) (.ref cL) = some true) :
    FnOk P w K mg base C8.CX0 9 fa (PySem.W.fnOf "law" "law" (defArgs s_law) (defBody s_law) (defScope s_law) .none kV doc pm an (.ref c) ct) ["_law_script"] (spLaw K Pt) := by
  obtain ⟨gt, fdt, Ft, mgt, bt⟩ := F_try.ex
  have kpt := Ft.kp
  obtain ⟨oct, odt, kVt, doct, pmt, ant, cdvt, ctt, oslt, rfl, lkt, hcdt⟩ := Ft.ex
  refine fn_of lk hcd sc_law (fun vs H Q E ⟨_, _, e, _⟩ => by rw [e]; rfl) fun A outer s H vs Q E hr h => ?_
  have nd := sc_law.nd
  have hr1 := hr
  have hu64 := hu_64 hr1
  have hu65 := hu_65 hr1
  obtain ⟨a, ns, rfl, hS, hn, hT, q⟩ := h
  generalize hTl : [(Pt, (envOfC "law" (defScope s_law) s.heap.objs.size fa (.ref c)).qual ++ "<lambda>")] = Tl
  have hmT : (Pt, (envOfC "law" (defScope s_law) s.heap.objs.size fa (.ref c)).qual ++ "<lambda>") ∈ Tl := by rw [← hTl]; exact List.mem_cons_self
  have huT : ∀ p ∈ Tl, p.1 = Pt → p.2 = (envOfC "law" (defScope s_law) s.heap.objs.size fa (.ref c)).qual ++ "<lambda>" := fun p hp _ => by
    rw [← hTl] at hp
    rw [List.mem_singleton.mp hp]
  refine ofNox ⟨_, ((pss_cons (ps_set (i := 1) nd rfl (Or.inl rfl) (pe_c0 C__law_every hr1 (by decide) (by rfl))) 
    (pss_cons (ps_for PassesOwn.never rfl (pi_range1 (by rfl) T.b_range (pa_cons pe_int pa_nil)) (pg_name (i := 2) nd rfl (Or.inl rfl)) 
      (pss_cons (ps_set (i := 3) nd rfl (Or.inl rfl) (C8.pe_c C__law_deck hr1 (by decide) (by rfl) (pa_cons (pe_ix (ix_listK K rfl) (pe_op (op_catSK K rfl) (pv 0) (pe_op op_rep (pe_lst (pa_cons pe_int pa_nil)) pe_int)) (pv 2) (fun _ _ => rfl)) (pa_cons (pv 2) pa_nil)))) 
      (pss_cons (ps_par (i := 4) (j := 5) rfl nd rfl rfl (by decide) rfl rfl (pa_cons (C8.pe_c C__law_rule hr1 (by decide) (by rfl) (pa_cons (pv 3) pa_nil)) (pa_cons (pe_tup pa_nil) pa_nil)) (by with_unfolding_all rfl)) 
      (pss_cons (ps_for PassesOwn.never rfl (pi_range1 (by rfl) T.b_range (pa_cons (C8.pe_c C__law_pick hr1 (by decide) (by rfl) (pa_cons (pv 3) (pa_cons pe_int pa_nil))) pa_nil)) (pg_name (i := 6) nd rfl (Or.inl rfl)) 
        (pss_cons (ps_set (i := 7) nd rfl (Or.inl rfl) (C8.pe_c C__law_song hr1 (by decide) (by rfl) (pa_cons (pv 3) (pa_cons pe_int pa_nil)))) 
        (pss_one (ps_set (i := 5) nd rfl (Or.inl rfl) (pe_op (op_catAK K rfl) (pv 5) (pe_tup (pa_cons (pe_tup (pa_cons (pv 7) (pa_cons (pe_ix (ix_listK K rfl) (pe_op (op_catSK K rfl) (pe_lst (pa_cons (pe_tup (pa_cons pe_int pa_nil)) pa_nil)) (C8.pe_c C__law_went hr1 (by decide) (by rfl) (pa_cons (pv 4) (pa_cons (pe_tup (pa_cons pe_int pa_nil)) (pa_cons (pv 7) pa_nil))))) (pe_un un_neg pe_int) (fun _ _ => rfl)) pa_nil))) pa_nil))))))) 
      (pss_cons (ps_set (i := 8) nd rfl (Or.inl rfl) (pe_lst pa_nil)) 
      (pss_cons (ps_for PassesOwn.never rfl (pi_listK K rfl (pv 1)) (pg_name (i := 9) nd rfl (Or.inr rfl)) 
        (pss_one (ps_if (pt_cmpR (op_eqDK K rfl hu64) (pe_lc (own := [("_law_song_here", 7), ("_law_line", 12)]) rfl nd (pi_tupK K rfl (pv 5)) (blkOk_by (own := [("_law_song_here", 7), ("_law_line", 12)]) (by kernel_rfl)) (fun _ _ _ _ _ => (pg_tupK K 2 rfl rfl (pgs_cons (pg_name (i := 7) nd rfl (Or.inl rfl)) (pgs_cons (pg_name (i := 12) nd rfl (Or.inl rfl)) pgs_nil)))) (fun _ _ _ _ _ => pts_one (pt_cmpR (op_neDK K rfl hu64) (pe_ix (ix_listK K rfl) (pe_op (op_catSK K rfl) (pe_lst (pa_cons (pe_tup (pa_cons pe_int pa_nil)) pa_nil)) (C8.pe_c C__law_went hr1 (by decide) (by rfl) (pa_cons (pv 9) (pa_cons (pe_tup (pa_cons pe_int pa_nil)) (pa_cons (pv 7) pa_nil))))) (pe_un un_neg pe_int) (fun _ _ => rfl)) (pv 12) (nomark _))) (fun _ _ _ _ _ => pe_int)) (pe_lst pa_nil) (nomark _)) 
          (pss_one (ps_expr (pe_bm PySem.F.plainAttrs_list PySem.F.slot_list_append PySem.F.type_list_append mt_append (pv 8) (pa_cons (pv 9) pa_nil)))) pss_nil))) 
      (pss_cons (ps_set (i := 10) nd rfl (Or.inl rfl) (pe_cX C_rules_for hr1 (by decide) (by rfl) (pa_cons (pv 5) pa_nil))) 
      (pss_one (ps_if (PW.pt (pw_or (pt_not (pt_val (C8.pe_c C__law_same hr1 (by decide) (by rfl) (pa_cons (pv 10) (pa_cons (pv 8) pa_nil))))) (pw_or1 (pt_cmpR (op_notInDK K rfl hu65) (pv 4) (pv 10) (by with_unfolding_all rfl))))) 
        (pss_one (ps_ret pe_bl)) pss_nil))))))))) 
    (pss_cons (ps_for PassesOwn.never rfl (pi_tupK K rfl (pe_tup (pa_cons pe_non (pa_cons (pe_lst pa_nil) (pa_cons (pe_tup (pa_cons pe_int pa_nil)) (pa_cons (pe_tup (pa_cons (pe_tup (pa_cons pe_str (pa_cons (pe_tup (pa_cons pe_int pa_nil)) pa_nil))) pa_nil)) (pa_cons (pe_tup (pa_cons (pe_tup (pa_cons pe_str (pa_cons (pe_tup (pa_cons pe_int pa_nil)) pa_nil))) pa_nil)) (pa_cons (pe_tup (pa_cons (pe_tup (pa_cons pe_str (pa_cons (pe_tup pa_nil) pa_nil))) pa_nil)) (pa_cons (pe_op (op_repTK K rfl) (pe_tup (pa_cons (pe_tup (pa_cons pe_str (pa_cons (pe_tup (pa_cons pe_int pa_nil)) pa_nil))) pa_nil)) pe_int) (pa_cons (pe_tup (pa_cons (pe_tup (pa_cons pe_str (pa_cons (pe_tup (pa_cons pe_int pa_nil)) (pa_cons pe_int pa_nil)))) pa_nil)) pa_nil)))))))))) (pg_name (i := 11) nd rfl (Or.inr rfl)) 
      (pss_one (ps_if (pt_cmpR op_ne (pe_lamcallN (k := 6) (T := Tl) (TT := TTl aS) (by rfl) mgt kpt lkt hcdt bt sc__law_try rfl (Or.inl rfl) (gives_try C_name gL eL (hr1.mono (by decide))) TB rfl hmT huT (hr1.mono (by decide)) (LamX.lamS_by (by kernel_rfl)) rfl (fun _ _ _ _ _ => rfl) (fun A outer s H E f c hr7 => (pe_cXE C_rules_for hr7 (by decide) (L2N.passes_call (L2N.takes_of rfl rfl rfl rfl) (fun _ _ _ _ h => h)) (by rfl) (pa_cons (pv 11) pa_nil)))) pe_str (nomark _)) 
        (pss_one (ps_ret pe_bl)) pss_nil))) 
    (pss_one (ps_ret (pe_and (pe_cmpR op_eq (pe_callB (call_lenK K rfl) (by rfl) T.b_len bb_len (pa_cons (pe_cX C_rules_for hr1 (by decide) (by rfl) (pa_cons (pe_tup pa_nil) pa_nil)) pa_nil)) pe_int (nomark _)) (pe_one (pe_cmpR op_eq (pe_callB (call_lenK K rfl) (by rfl) T.b_len bb_len (pa_cons (pe_cX C_rules_for hr1 (by decide) (by rfl) (pa_cons (pe_tup (pa_cons (pe_tup (pa_cons pe_str (pa_cons (pe_tup (pa_cons pe_int pa_nil)) pa_nil))) pa_nil)) pa_nil)) pa_nil)) pe_int (nomark _)))))))))), ?_⟩
  have V0 : Dp K H (.ref a) (.list (ns.map PyData.int)) := .lst hS dpa_of_ints
  refine sq_set (K := K) (d := .list (rulesAll.map ruleD)) (ed_call es_nil ⟨rfl, rfl⟩) fun v1 H1 e1 h1 => ?_
  refine sq_for0 (K := K) (Hb := H1) (ds := rangeD 0 2) (Ex.refl H1) (ei0_r1 (es_cons (ed_int (i := 2)) es_nil) (by decide))
    (fun i σ' H' => ∃ x2 x3 x4 x5 x6 x7 x8 x9 x10, σ' = [some (.ref a), some v1, x2, x3, x4, x5, x6, x7, x8, x9, x10, none, none] ∧ Ex H1 H') (fun H2 e2 => ⟨_, _, _, _, _, _, _, _, _, rfl, e2⟩) (fun i σ' H' ⟨_, _, _, _, _, _, _, _, _, _, e⟩ => e) ?_ ?_
  · rintro i d x σ' H' H2 hd ⟨y2, y3, y4, y5, y6, y7, y8, y9, y10, rfl, e0⟩ e2 hx
    have hi : i < 2 := (List.getElem?_eq_some_iff.mp hd).1
    rw [rangeD_get hi] at hd
    obtain rfl := Option.some.inj hd
    rw [Int.zero_add] at hx
    have e12 : Ex H H2 := (e1.trans e0).trans e2
    have h1' : Dp K H2 v1 (.list (rulesAll.map ruleD)) := Dpm h1 (e0.trans e2)
    obtain ⟨cell, hcell⟩ : ∃ cell : Int, (ns.map PyData.int ++ (List.replicate (2 : Int).toNat [PyData.int 0]).flatten)[i]? = some (.int cell) := by
      have el : ns.map PyData.int ++ (List.replicate (2 : Int).toNat [PyData.int 0]).flatten = (ns ++ [0, 0]).map PyData.int := by rw [List.map_append]; rfl
      have hlt : i < (ns ++ [0, 0]).length := by rw [List.length_append]; show i < ns.length + 2; omega
      exact ⟨(ns ++ [0, 0])[i], by rw [el, List.getElem?_map, List.getElem?_eq_getElem hlt]; rfl⟩
    have args : EvS K (tCons (tOp (rIxL K) (tOp (rCatS K) (tVar 0) (tOp rRep (tLst (tCons (tC (.int 0)) tNil)) (tC (.int 2)))) (tVar 2)) (tCons (tVar 2) tNil)) [some (.ref a), some v1, some x, y3, y4, y5, y6, y7, y8, y9, y10, none, none] H2 [.int cell, .int (i : Nat)] :=
      es_cons (ed_op (ed_op (ed_var (i := 0) rfl (Dpm V0 e12)) (ed_rep (es_cons ed_int es_nil) (by decide) (by decide) (by decide) (by decide)) (rd_catS (by rw [List.length_map]; show ns.length + 2 ≤ 100000; omega))) (ed_var (i := 2) rfl hx) (rd_ixL (at_nat hcell))) (es_cons (ed_var (i := 2) rfl hx) es_nil)
    refine sq_raw (args H2 (Ex.refl H2) _ fun vs H3 e3 hs => ?_)
    obtain ⟨u1, u2, rfl, a1, a2⟩ := len2 hs
    cases a1
    cases a2
    refine ⟨cell, (i : Nat), rfl, by omega, fun p H4 e4 hp dk => ?_⟩
    refine ⟨_, rfl, p, (i : Nat), rfl, dk, by omega, fun r v4 H5 ok x5 dk5 h4 => ⟨Evl.sz_of (by simp), fun q5 hq5 => ⟨_, _, rfl, ?_⟩⟩⟩
    have dk6 := dk5.upd (o := .tup []) (dk5.ne hq5)
    have x6 : Xb p H3 (upd H5 q5 (.tup [])) := ((Xb.of e4).trans x5).trans (.of (Ex.new hq5))
    have h4' := Dpm h4 (Ex.new (o := .tup []) hq5)
    have h5 : Dp K (upd H5 q5 (.tup [])) (.ref q5) (seenD []) := .tup (.of upd_same) .nil
    generalize upd H5 q5 (.tup []) = H6 at dk6 x6 h4' h5
    refine ⟨_, rfl, p, 3, _, rfl, by decide, by decide, dk6, by omega, fun rr H7 r0 r1 x7 dk7 => ⟨rr, rfl, by omega, by omega, ?_⟩⟩
    refine ⟨fun n mm σ' H' => mm = rr.toNat - n ∧ n ≤ rr.toNat ∧ ∃ (l : Seen) (v5 : V) (z6 z7 : Option V), σ' = [some (.ref a), some v1, some (.int (i : Nat)), some (.ref p), some v4, some v5, z6, z7, y8, y9, y10, none, none] ∧ Xb p H3 H' ∧ Deck H' p (1000 + 100 * n) ∧ Dp K H' v5 (seenD l) ∧ Dp K H' v4 (ruleD r) ∧ l.length = n ∧ ∀ pr ∈ l, pr.1.length ≤ 10 ∧ pr.2 = behind r pr.1,
      ⟨_, rfl, Nat.zero_le _, [], _, _, _, by cases hx; rfl, x6.trans x7, dk7.le (by omega), dp_b (x7.b dk6) _ _ rfl h5, dp_b (x7.b dk6) _ _ (ruleD_tup r) h4', rfl, fun _ h => by cases h⟩, ?_⟩
    rintro n mm σ' H' ⟨rfl, hle, l, v5, z6, z7, rfl, xH, dkH, h5, h4, hl, hfit⟩
    by_cases hlt : n < rr.toNat
    · refine .inr ⟨hlt, fun σ' H' => n + 1 ≤ rr.toNat ∧ ∃ (l : Seen) (v5 : V) (z6 z7 : Option V), σ' = [some (.ref a), some v1, some (.int (i : Nat)), some (.ref p), some v4, some v5, z6, z7, y8, y9, y10, none, none] ∧ Xb p H3 H' ∧ Deck H' p (1000 + 100 * (n + 1 : Nat)) ∧ Dp K H' v5 (seenD l) ∧ Dp K H' v4 (ruleD r) ∧ l.length = n + 1 ∧ ∀ pr ∈ l, pr.1.length ≤ 10 ∧ pr.2 = behind r pr.1,
        fun σ2 H2 ⟨p1, p2⟩ => ⟨rr.toNat - (n + 1), by omega, rfl, p1, p2⟩, ?_⟩
      rintro x6 H8 ⟨rfl, rfl⟩
      refine ⟨_, rfl, p, 10, _, rfl, by decide, by decide, dkH, by omega, fun es H9 hes x9 dk9 => ?_⟩
      have h5' := dp_b (x9.b dkH) _ _ (show tupOnly (seenD l) = true from tupOnlyAll_map fun pr _ => by
        show tupOnlyAll [rowD pr.1, szD pr.2] = true
        exact Bool.and_eq_true_iff.mpr ⟨rfl, Bool.and_eq_true_iff.mpr ⟨szD_tup _, rfl⟩⟩) h5
      have h4' := dp_b (x9.b dkH) _ _ (ruleD_tup r) h4
      have hes' : es.length ≤ 10 := hes
      refine sd_set (K := K) (d := seenD (l ++ [(es, behind r es)])) ((ed_op (ed_var (i := 5) rfl h5') (ed_tup (es_cons (ed_tup (es_cons (ed_var (i := 7) rfl (.str (rowS es))) (es_cons (ed_last ok (by omega) (ed_var (i := 4) rfl h4') (ed_var (i := 7) rfl (.str (rowS es)))) es_nil)) (by simp)) es_nil) (by simp)) (rd_catA (by rw [List.length_map]; show l.length + 1 ≤ 100000; omega))).is ?_) fun v5' H10 e10 h5'' => ⟨by omega, l ++ [(es, behind r es)], v5', _, _, rfl, (xH.trans x9).trans (.of e10), (dk9.ex e10).le (by omega), h5'', Dpm h4' e10, by rw [List.length_append, hl]; rfl, fun pr hpr => ?_⟩
      · show PyData.tuple (l.map pairD ++ [pairD (es, behind r es)]) = .tuple ((l ++ [(es, behind r es)]).map pairD)
        rw [List.map_append]
        rfl
      · rcases List.mem_append.mp hpr with h | h
        · exact hfit pr h
        · rw [List.mem_singleton.mp h]
          exact ⟨hes', rfl⟩
    · refine .inl ⟨by show rr.toNat ≤ n; omega, ?_⟩
      have hn2 : l.length ≤ 2 := by omega
      have eH : Ex H3 H' := xH.ex hp
      have h1b : Dp K H' v1 (.list (rulesAll.map ruleD)) := Dpm h1' (e3.trans eH)
      have hseen : Seen1 l := ⟨⟨by omega, fun pr hpr => by have := (hfit pr hpr).1; omega, fun pr hpr => by
        rw [(hfit pr hpr).2]
        have g := Good.behind ok pr.1
        have := g.len4 ok
        have := List.length_pos_iff.mpr g.ne
        omega⟩, fun pr hpr y hy => by
        rw [(hfit pr hpr).2] at hy
        have g := Good.behind ok pr.1
        exact ⟨g.lo y hy, g.hi y hy⟩⟩
      have eAll : Ex H1 H' := ((e0.trans e2).trans e3).trans eH
      refine sq_new (K := K) fun p8 hp8 hA => ?_
      refine sq_for0 (K := K) (Hb := H') (ds := rulesAll.map ruleD) (Ex.new hp8) (ei0_list (i := 1) rfl h1b)
        (fun m σ2 H2 => ∃ w7 w9, σ2 = [some (.ref a), some v1, some (.int (i : Nat)), some (.ref p), some v4, some v5, z6, w7, some (.ref p8), w9, y10, none, none] ∧ Ex H' H2 ∧ Acc K p8 H2 (((rulesAll.take m).filter (fits l)).map ruleD))
        (fun H2 e => ⟨_, _, rfl, (Ex.new hp8).trans e, hA.mono e⟩) (fun m σ2 H2 ⟨_, _, _, e, _⟩ => e) ?_ ?_
      · rintro m d1 x9 σ2 H2b H3b hd1 ⟨w7, w9, rfl, eb, hAb⟩ e3b hx9
        rw [List.getElem?_map] at hd1
        cases hr1' : rulesAll[m]? with
        | none => rw [hr1'] at hd1; cases hd1
        | some r1 =>
          rw [hr1'] at hd1
          cases hd1
          have ok1 := rules_ok (List.mem_of_getElem? hr1')
          have hm : m < rulesAll.length := (List.getElem?_eq_some_iff.mp hr1').1
          rw [rules_len] at hm
          have tk : (rulesAll.take (m + 1)).filter (fits l) = (rulesAll.take m).filter (fits l) ++ (if fits l r1 = true then [r1] else []) := by
            rw [take_snoc hr1', List.filter_append]
            congr 1
            cases hf : fits l r1 <;> simp [hf]
          have h5b := Dpm h5 (eb.trans e3b)
          have test : EvT (tTest (tOp (rEqD K) (tLc (iTup K (tVar 5)) (gTup K 2 (gCons (gName 7) (gCons (gName 12) gNil))) (tTest (tOp (rNeD K) (tOp (rIxL K) (tOp (rCatS K) (tLst (tCons (tTup (tCons (tC (.int 0)) tNil)) tNil)) (tCall (PF K R_went) [] C8.E0 (tCons (tVar 9) (tCons (tTup (tCons (tC (.int 0)) tNil)) (tCons (tVar 7) tNil))))) (tUn (rU fun i => .int (-i)) (tC (.int 1)))) (tVar 12))) (tC (.int 1)) [7, 12]) (tLst tNil)))
              [some (.ref a), some v1, some (.int (i : Nat)), some (.ref p), some v4, some v5, z6, w7, some (.ref p8), some x9, y10, none, none] H3b (fits l r1) := by
            rw [← notFit_fits r1 l]
            refine et_test (ed_op (ed_lc2 (K := K) (notFit r1) (fun _ => .int 1) (ei0_tup (ds := l.map pairD) (i := 5) rfl h5b).evI (by rw [List.length_map]; omega) (fun d hd => ?_) (fun _ _ => rfl) (fun _ _ _ => rfl) (fun d1 d2 hd x y H4b e4b hx hy => ?_) fun _ _ _ _ _ _ _ _ _ _ => ed_int) (ed_lst es_nil (by simp)) (rd_eqD ?_ ?_))
            · obtain ⟨pr, _, rfl⟩ := List.mem_map.mp hd
              exact ⟨_, _, rfl⟩
            · obtain ⟨pr, hpr, e⟩ := List.mem_map.mp hd
              cases e
              have h10 := (hfit pr hpr).1
              have t := et_test (ed_op (ed_last (E := C8.E0) ok1 (by omega) (ed_var (i := 9) (σ := (((wipe [some (.ref a), some v1, some (.int (i : Nat)), some (.ref p), some v4, some v5, z6, w7, some (.ref p8), some x9, y10, none, none] [7, 12]).set 7 (some x)).set 12 (some y))) rfl (Dpm hx9 e4b)) (ed_var (i := 7) rfl hx)) (ed_var (i := 12) rfl hy) (rd_neD (K := K) ((shp_tup (n := 1) fun d hd => by obtain ⟨i, _, rfl⟩ := List.mem_map.mp hd; exact shp_int).ok (by decide)) ((shp_tup (n := 1) fun d hd => by obtain ⟨i, _, rfl⟩ := List.mem_map.mp hd; exact shp_int).ok (by decide))))
              have e : (!PyData.eqv (szD (behind r1 pr.1)) (szD pr.2)) = notFit r1 (.tuple [rowD pr.1, szD pr.2]) := by
                show (!PyData.eqvAll ((behind r1 pr.1).map PyData.int) (pr.2.map PyData.int)) = !decide (behind r1 (unRow (rowS pr.1)) = unSz (szD pr.2))
                rw [eqv_ints, unRow_rowS, unSz_szD]
              rw [e] at t
              exact t
            · exact (shp_lst (n := 1) fun d hd => by obtain ⟨_, _, rfl⟩ := List.mem_map.mp hd; exact shp_int).ok (by decide)
            · rfl
          refine sd_if test (fun hf H4b e4b => ?_) fun hf H4b e4b => ?_
          · refine sd_appA (K := K) (ed_var (i := 9) rfl (Dpm hx9 e4b)) (i := 8) rfl ((hAb.mono e3b).mono e4b) (tupOnlyAll_map fun r _ => ruleD_tup r) (ruleD_tup r1) ?_ fun H5b H6b o e5b xb eo hA' => ?_
            · rw [List.length_map]
              have := List.length_filter_le (fits l) (rulesAll.take m)
              rw [List.length_take] at this
              omega
            · refine ⟨w7, some x9, rfl, ?_, ?_⟩
              · rw [eo]
                exact Evl.Ex.mut (((eb.trans e3b).trans e4b).trans e5b) hp8
              · rw [tk, if_pos hf, List.map_append]
                exact hA'
          · refine ⟨w7, some x9, rfl, (eb.trans e3b).trans e4b, ?_⟩
            rw [tk, if_neg (by rw [hf]; decide), List.append_nil]
            exact (hAb.mono e3b).mono e4b
      · rintro σ2 H2b ⟨w7, w9, rfl, eb, hAb⟩
        rw [List.length_map, List.take_length] at hAb
        have h5b := Dpm h5 eb
        refine sq_set (K := K) (ed_rf hseen (es_cons (ed_var (i := 5) rfl h5b) es_nil)) fun v10 H3b e3b h10 => ?_
        have lenX : (rulesAll.filter (fits l)).length ≤ 3744 := by
          have := List.length_filter_le (fits l) rulesAll
          rw [rules_len] at this
          exact this
        have flatX : flatN 3 (.list ((rulesAll.filter (fits l)).map ruleD)) := ⟨by rw [List.length_map]; omega, fun d hd => by
          obtain ⟨r2, _, rfl⟩ := List.mem_map.mp hd
          exact ruleD_flat r2⟩
        have hrin : r ∈ rulesAll.filter (fits l) := List.mem_filter.mpr ⟨mem_rules ok, List.all_eq_true.mpr fun pr hpr => decide_eq_true (hfit pr hpr).2.symm⟩
        have hany : (!((rulesAll.filter (fits l)).map ruleD).any fun z => PyData.eqv z (ruleD r)) = false := by
          have hA : ((rulesAll.filter (fits l)).map ruleD).any (fun z => PyData.eqv z (ruleD r)) = true := List.any_eq_true.mpr ⟨ruleD r, List.mem_map.mpr ⟨r, hrin, rfl⟩, eqv_rule r⟩
          rw [hA]
          rfl
        have bad := Evl.et_or (Evl.et_not (et_B (ed_call (K := K) (E := C8.E0) (σ := [some (.ref a), some v1, some (.int (i : Nat)), some (.ref p), some v4, some v5, z6, w7, some (.ref p8), w9, some v10, none, none]) (es_cons (ed_var (i := 10) rfl h10) (es_cons (ed_var (i := 8) rfl (Dpm hAb.dp e3b)) es_nil)) (R := R_same 3) ⟨_, flatX, rfl, rfl⟩)))
          fun _ => et_test (ed_op (ed_var (K := K) (i := 4) rfl (Dpm h4 (eb.trans e3b))) (ed_var (i := 10) rfl h10) (rd_notInD ((ruleD_shp r).ok (by decide)) ((shp_lst (n := 1) fun d hd => by obtain ⟨r2, _, rfl⟩ := List.mem_map.mp hd; exact ruleD_shp r2).ok (by decide))))
        rw [hany] at bad
        exact sd_if bad (fun z => by cases z) fun _ H4b e4b => ⟨_, _, _, _, _, _, _, _, _, rfl, ((eAll.trans eb).trans e3b).trans e4b⟩
  · rintro σ' H' ⟨y2, y3, y4, y5, y6, y7, y8, y9, y10, rfl, e0⟩
    refine sq_forTup (K := K) (ds := oddsD) (ed_tup (es_cons ed_non (es_cons (ed_lst es_nil (by simp)) (es_cons (ed_tup (es_cons ed_int es_nil) (by simp)) (es_cons (ed_tup (es_cons (ed_tup (es_cons ed_str (es_cons (ed_tup (es_cons ed_int es_nil) (by simp)) es_nil)) (by simp)) es_nil) (by simp))
        (es_cons (ed_tup (es_cons (ed_tup (es_cons ed_str (es_cons (ed_tup (es_cons ed_int es_nil) (by simp)) es_nil)) (by simp)) es_nil) (by simp)) (es_cons (ed_tup (es_cons (ed_tup (es_cons ed_str (es_cons (ed_tup es_nil (by simp)) es_nil)) (by simp)) es_nil) (by simp))
          (es_cons (ed_op (ed_tup (es_cons (ed_tup (es_cons ed_str (es_cons (ed_tup (es_cons ed_int es_nil) (by simp)) es_nil)) (by simp)) es_nil) (by simp)) (ed_int (i := 7)) (rd_repT (by simp) (by decide) (by decide) (by simp)))
            (es_cons (ed_tup (es_cons (ed_tup (es_cons ed_str (es_cons (ed_tup (es_cons ed_int es_nil) (by simp)) (es_cons ed_int es_nil))) (by simp)) es_nil) (by simp)) es_nil)))))))) (by decide)) fun ao xs Ho eo hs ha => ?_
    · have lenX := ha.length
      have len8 : oddsD.length = 8 := rfl
      refine ⟨fun n mm σ' H2 => mm = 8 - n ∧ n ≤ 8 ∧ ∃ x11, σ' = [some (.ref a), some v1, y2, y3, y4, y5, y6, y7, y8, y9, y10, x11, none] ∧ SqT K H2 ao xs ∧ DpAll K H2 xs oddsD ∧ LamX.Tabs Tl H2, ⟨_, rfl, Nat.zero_le _, none, rfl, hs, ha, fun pt hpt => ?_⟩, ?_⟩
      · rw [← hTl] at hpt
        rw [List.mem_singleton.mp hpt]
        exact LamX.TabS.nil (((e1.trans e0).trans eo) _ _ hT)
      · rintro n mm σ' H2 ⟨rfl, hle, x11, rfl, hsn, han, hTn⟩
        by_cases hlt : n < 8
        · refine .inr ⟨⟨xs, _, hsn, List.getElem?_eq_getElem (by omega)⟩, fun σ' H2 => n + 1 ≤ 8 ∧ ∃ x11, σ' = [some (.ref a), some v1, y2, y3, y4, y5, y6, y7, y8, y9, y10, x11, none] ∧ SqT K H2 ao xs ∧ DpAll K H2 xs oddsD ∧ LamX.Tabs Tl H2, fun σ2 H2 ⟨p1, p2⟩ => ⟨8 - (n + 1), by omega, rfl, p1, p2⟩, ?_⟩
          rintro x H3 ⟨rfl, hy⟩
          obtain ⟨d, hd, dx⟩ := han.getV (hy xs hsn)
          have hdm : d ∈ oddsD := List.mem_of_getElem? hd
          have hbad : okSeen d = false := not_t (List.all_eq_true.mp odds_bad d hdm)
          refine ⟨hTn, fun H4 eN T4 E' Q' hE => ⟨x, rfl, d, .cons (dp_extN eN d x dx) .nil, odds_small d hdm, fun _ H5 e5 => hE H5 fun H6 e6 => ⟨rfl, _, rfl, ?_⟩, fun z => by rw [hbad] at z; cases z⟩⟩
          have hs6 : (("Seen" : Str) ++ ("+" : Str)) = ("Seen+" : Str) := by decide
          rw [hs6, decide_eq_true rfl]
          show (if (!true) = true then _ else _)
          rw [if_neg (by decide)]
          have eX := e5.trans e6
          exact ⟨by omega, some x, rfl, ex_t eX (extN_t eN hsn), Dpam (dpa_extN eN _ _ han) eX, T4.ext eX⟩
        · obtain rfl : n = 8 := by omega
          refine .inl ⟨⟨xs, hsn, by omega⟩, ?_⟩
          have g0 : Seen1 [] := ⟨⟨by simp, fun _ h => (by cases h), fun _ h => (by cases h)⟩, fun _ h => (by cases h)⟩
          have g1 : Seen1 [([.a], [0])] := ⟨⟨by simp, fun p h => by rw [List.mem_singleton.mp h]; decide, fun p h => by rw [List.mem_singleton.mp h]; decide⟩, fun p h => by rw [List.mem_singleton.mp h]; decide⟩
          refine sd_ret (K := K) (d := .bool true) ((ed_andV (ed_op (ed_cb (es_cons (ed_rf g0 (es_cons ((ed_tup es_nil (by simp)).is rfl) es_nil)) es_nil) rc_lenL) ed_int rd_eqI) fun _ => ed_op (ed_cb (es_cons (ed_rf g1 (es_cons ((ed_tup (es_cons (ed_tup (es_cons ed_str (es_cons (ed_tup (es_cons ed_int es_nil) (by simp)) es_nil)) (by simp)) es_nil) (by simp)).is rfl) es_nil)) es_nil) rc_lenL) ed_int rd_eqI).is ?_) fun v H3 e3 hv => by cases hv; exact q H3
          rw [many0, many1]
          rfl
end
end Tlg
namespace Tlg
open PySem PySem.Spec PyProof.Rows L2
open Evl (Ex EvT EvO ex_l ex_t)
section
/-! ### the end -/
def cOf (l : List Addr) (i : Nat) : Addr := l.getD i 0
theorem kit_ref {K : PySem.W.Frag} {t : Value} {C : Addr} {b : Bool} (h1 : PySem.W.isClsIn K C = true) (h2 : PySem.W.typeIn K (.ref C) = some (.type "type")) (h3 : PySem.W.subIn K t (.ref C) = some b) (h4 : (t == Value.ref C) = false) : PySem.W.kitOne K t (.ref C) = some b := by
  have h1' : (PySem.W.clsIn K C).isSome = true := h1
  have e : ((PySem.W.clsIn K C).isSome && PySem.W.typeIn K (.ref C) == some (.type "type")) = true := by rw [h1', h2] <;> rfl
  show (if (t == Value.ref C) = true then some true else (if ((PySem.W.clsIn K C).isSome && PySem.W.typeIn K (.ref C) == some (.type "type")) = true then PySem.W.subIn K t (.ref C) else none)) = some b
  rw [h4, if_neg (by decide), if_pos e]
  exact h3
theorem kit_self {K : PySem.W.Frag} {C : Addr} : PySem.W.kitOne K (.ref C) (.ref C) = some true := if_pos (by simp)
theorem kit_ty2 {K : PySem.W.Frag} {t : Value} {T : String} {b : Bool} (h1 : PySem.W.kitMeta T = true) (h3 : PySem.W.subIn K t (.type T) = some b) (h4 : (t == Value.type T) = false) : PySem.W.kitOne K t (.type T) = some b := by
  show (if (t == Value.type T) = true then some true else (if PySem.W.kitMeta T = true then PySem.W.subIn K t (.type T) else none)) = some b
  rw [h4, if_neg (by decide), if_pos h1]
  exact h3
theorem all18 {l : PySem.W.OpenLaw} {w : World} {K : PySem.W.Frag} {h : Heap} {mg : Str → Option Value} {fa : Addr} {f0 : Addr} {oc0 kV0 dc0 pm0 cd0 ct0 : Value} {od0 an0 : Option Addr} {sl0 : Array (Option Value)} {f1 : Addr} {oc1 kV1 dc1 pm1 cd1 ct1 : Value} {od1 an1 : Option Addr} {sl1 : Array (Option Value)} {f2 : Addr} {oc2 kV2 dc2 pm2 cd2 ct2 : Value} {od2 an2 : Option Addr} {sl2 : Array (Option Value)} {f3 : Addr} {oc3 kV3 dc3 pm3 cd3 ct3 : Value} {od3 an3 : Option Addr} {sl3 : Array (Option Value)} {f4 : Addr} {oc4 kV4 dc4 pm4 cd4 ct4 : Value} {od4 an4 : Option Addr} {sl4 : Array (Option Value)} {f5 : Addr} {oc5 kV5 dc5 pm5 cd5 ct5 : Value} {od5 an5 : Option Addr} {sl5 : Array (Option Value)} {f6 : Addr} {oc6 kV6 dc6 pm6 cd6 ct6 : Value} {od6 an6 : Option Addr} {sl6 : Array (Option Value)} {f7 : Addr} {oc7 kV7 dc7 pm7 cd7 ct7 : Value} {od7 an7 : Option Addr} {sl7 : Array (Option Value)} {f8 : Addr} {oc8 kV8 dc8 pm8 cd8 ct8 : Value} {od8 an8 : Option Addr} {sl8 : Array (Option Value)} {f9 : Addr} {oc9 kV9 dc9 pm9 cd9 ct9 : Value} {od9 an9 : Option Addr} {sl9 : Array (Option Value)} {f10 : Addr} {oc10 kV10 dc10 pm10 cd10 ct10 : Value} {od10 an10 : Option Addr} {sl10 : Array (Option Value)} {f11 : Addr} {oc11 kV11 dc11 pm11 cd11 ct11 : Value} {od11 an11 : Option Addr} {sl11 : Array (Option Value)} {f12 : Addr} {oc12 kV12 dc12 pm12 cd12 ct12 : Value} {od12 an12 : Option Addr} {sl12 : Array (Option Value)} {f13 : Addr} {oc13 kV13 dc13 pm13 cd13 ct13 : Value} {od13 an13 : Option Addr} {sl13 : Array (Option Value)} {f14 : Addr} {oc14 kV14 dc14 pm14 cd14 ct14 : Value} {od14 an14 : Option Addr} {sl14 : Array (Option Value)} {f15 : Addr} {oc15 kV15 dc15 pm15 cd15 ct15 : Value} {od15 an15 : Option Addr} {sl15 : Array (Option Value)} {f16 : Addr} {oc16 kV16 dc16 pm16 cd16 ct16 : Value} {od16 an16 : Option Addr} {sl16 : Array (Option Value)} {f17 : Addr} {oc17 kV17 dc17 pm17 cd17 ct17 : Value} {od17 an17 : Option Addr} {sl17 : Array (Option Value)} {f18 : Addr} {oc18 kV18 dc18 pm18 cd18 ct18 : Value} {od18 an18 : Option Addr} {sl18 : Array (Option Value)} {f19 : Addr} {oc19 kV19 dc19 pm19 cd19 ct19 : Value} {od19 an19 : Option Addr} {sl19 : Array (Option Value)} {f20 : Addr} {oc20 kV20 dc20 pm20 cd20 ct20 : Value} {od20 an20 : Option Addr} {sl20 : Array (Option Value)} {f21 : Addr} {oc21 kV21 dc21 pm21 cd21 ct21 : Value} {od21 an21 : Option Addr} {sl21 : Array (Option Value)} {f22 : Addr} {oc22 kV22 dc22 pm22 cd22 ct22 : Value} {od22 an22 : Option Addr} {sl22 : Array (Option Value)} {f23 : Addr} {oc23 kV23 dc23 pm23 cd23 ct23 : Value} {od23 an23 : Option Addr} {sl23 : Array (Option Value)} {fL cc Pt aF cL : Addr} {ocL kVL dcL pmL ctL : Value} {odL anL : Option Addr} {slL : Array (Option Value)} {t_MOST_SIZE : Tok} {t_MOST_KEEP : Tok} {t_MOST_PAGES : Tok} {t_MOST_FACTOR : Tok} {t_MOST_EVENTS : Tok} {t_MOST_LINES : Tok} {t_MOST_SEEN : Tok} {t_EVENTS tk0 : Tok} {dF : Option Addr} {nF : Nat} {slF : Array (Option Value)} {e0 e1 e2 e3 e4 e5 e6 e7 e8 e9 e10 : Addr} (X : K.In h) (G : h.Ns mainGlobals mg) (hfa : mg "law" = some (.ref fa))
    (a0 : PySem.W.nsIn K mainGlobals "is_from" = some (some (.ref f0)))
    (l0 : K.lookup f0 = some ⟨oc0, od0, .func (PySem.W.fnOf "is_from" "is_from" (defArgs s_is_from) (defBody s_is_from) (defScope s_is_from) .none kV0 dc0 pm0 an0 cd0 ct0), sl0⟩)
    (c0 : PySem.W.codeIn K cd0 "is_from" = true)
    (k0 : PySem.W.keepIn K (.ref f0) = true)
    (a1 : PySem.W.nsIn K mainGlobals "pages_of" = some (some (.ref f1)))
    (l1 : K.lookup f1 = some ⟨oc1, od1, .func (PySem.W.fnOf "pages_of" "pages_of" (defArgs s_pages_of) (defBody s_pages_of) (defScope s_pages_of) .none kV1 dc1 pm1 an1 cd1 ct1), sl1⟩)
    (c1 : PySem.W.codeIn K cd1 "pages_of" = true)
    (k1 : PySem.W.keepIn K (.ref f1) = true)
    (a2 : PySem.W.nsIn K mainGlobals "turned" = some (some (.ref f2)))
    (l2 : K.lookup f2 = some ⟨oc2, od2, .func (PySem.W.fnOf "turned" "turned" (defArgs s_turned) (defBody s_turned) (defScope s_turned) .none kV2 dc2 pm2 an2 cd2 ct2), sl2⟩)
    (c2 : PySem.W.codeIn K cd2 "turned" = true)
    (k2 : PySem.W.keepIn K (.ref f2) = true)
    (a3 : PySem.W.nsIn K mainGlobals "within" = some (some (.ref f3)))
    (l3 : K.lookup f3 = some ⟨oc3, od3, .func (PySem.W.fnOf "within" "within" (defArgs s_within) (defBody s_within) (defScope s_within) .none kV3 dc3 pm3 an3 cd3 ct3), sl3⟩)
    (c3 : PySem.W.codeIn K cd3 "within" = true)
    (k3 : PySem.W.keepIn K (.ref f3) = true)
    (a4 : PySem.W.nsIn K mainGlobals "moved" = some (some (.ref f4)))
    (l4 : K.lookup f4 = some ⟨oc4, od4, .func (PySem.W.fnOf "moved" "moved" (defArgs s_moved) (defBody s_moved) (defScope s_moved) .none kV4 dc4 pm4 an4 cd4 ct4), sl4⟩)
    (c4 : PySem.W.codeIn K cd4 "moved" = true)
    (k4 : PySem.W.keepIn K (.ref f4) = true)
    (a5 : PySem.W.nsIn K mainGlobals "walked" = some (some (.ref f5)))
    (l5 : K.lookup f5 = some ⟨oc5, od5, .func (PySem.W.fnOf "walked" "walked" (defArgs s_walked) (defBody s_walked) (defScope s_walked) .none kV5 dc5 pm5 an5 cd5 ct5), sl5⟩)
    (c5 : PySem.W.codeIn K cd5 "walked" = true)
    (k5 : PySem.W.keepIn K (.ref f5) = true)
    (a6 : PySem.W.nsIn K mainGlobals "behind" = some (some (.ref f6)))
    (l6 : K.lookup f6 = some ⟨oc6, od6, .func (PySem.W.fnOf "behind" "behind" (defArgs s_behind) (defBody s_behind) (defScope s_behind) .none kV6 dc6 pm6 an6 cd6 ct6), sl6⟩)
    (c6 : PySem.W.codeIn K cd6 "behind" = true)
    (k6 : PySem.W.keepIn K (.ref f6) = true)
    (a7 : PySem.W.nsIn K mainGlobals "values_of" = some (some (.ref f7)))
    (l7 : K.lookup f7 = some ⟨oc7, od7, .func (PySem.W.fnOf "values_of" "values_of" (defArgs s_values_of) (defBody s_values_of) (defScope s_values_of) .none kV7 dc7 pm7 an7 cd7 ct7), sl7⟩)
    (c7 : PySem.W.codeIn K cd7 "values_of" = true)
    (k7 : PySem.W.keepIn K (.ref f7) = true)
    (a8 : PySem.W.nsIn K mainGlobals "every_rule" = some (some (.ref f8)))
    (l8 : K.lookup f8 = some ⟨oc8, od8, .func (PySem.W.fnOf "every_rule" "every_rule" (defArgs s_every_rule) (defBody s_every_rule) (defScope s_every_rule) .none kV8 dc8 pm8 an8 cd8 ct8), sl8⟩)
    (c8 : PySem.W.codeIn K cd8 "every_rule" = true)
    (k8 : PySem.W.keepIn K (.ref f8) = true)
    (a9 : PySem.W.nsIn K mainGlobals "is_row_of" = some (some (.ref f9)))
    (l9 : K.lookup f9 = some ⟨oc9, od9, .func (PySem.W.fnOf "is_row_of" "is_row_of" (defArgs s_is_row_of) (defBody s_is_row_of) (defScope s_is_row_of) .none kV9 dc9 pm9 an9 cd9 ct9), sl9⟩)
    (c9 : PySem.W.codeIn K cd9 "is_row_of" = true)
    (k9 : PySem.W.keepIn K (.ref f9) = true)
    (a10 : PySem.W.nsIn K mainGlobals "are_sizes_of" = some (some (.ref f10)))
    (l10 : K.lookup f10 = some ⟨oc10, od10, .func (PySem.W.fnOf "are_sizes_of" "are_sizes_of" (defArgs s_are_sizes_of) (defBody s_are_sizes_of) (defScope s_are_sizes_of) .none kV10 dc10 pm10 an10 cd10 ct10), sl10⟩)
    (c10 : PySem.W.codeIn K cd10 "are_sizes_of" = true)
    (k10 : PySem.W.keepIn K (.ref f10) = true)
    (a11 : PySem.W.nsIn K mainGlobals "rules_for" = some (some (.ref f11)))
    (l11 : K.lookup f11 = some ⟨oc11, od11, .func (PySem.W.fnOf "rules_for" "rules_for" (defArgs s_rules_for) (defBody s_rules_for) (defScope s_rules_for) .none kV11 dc11 pm11 an11 cd11 ct11), sl11⟩)
    (c11 : PySem.W.codeIn K cd11 "rules_for" = true)
    (k11 : PySem.W.keepIn K (.ref f11) = true)
    (a12 : PySem.W.nsIn K mainGlobals "_law_deck" = some (some (.ref f12)))
    (l12 : K.lookup f12 = some ⟨oc12, od12, .func (PySem.W.fnOf "_law_deck" "_law_deck" (defArgs s__law_deck) (defBody s__law_deck) (defScope s__law_deck) .none kV12 dc12 pm12 an12 cd12 ct12), sl12⟩)
    (c12 : PySem.W.codeIn K cd12 "_law_deck" = true)
    (k12 : PySem.W.keepIn K (.ref f12) = true)
    (a13 : PySem.W.nsIn K mainGlobals "_law_pick" = some (some (.ref f13)))
    (l13 : K.lookup f13 = some ⟨oc13, od13, .func (PySem.W.fnOf "_law_pick" "_law_pick" (defArgs s__law_pick) (defBody s__law_pick) (defScope s__law_pick) .none kV13 dc13 pm13 an13 cd13 ct13), sl13⟩)
    (c13 : PySem.W.codeIn K cd13 "_law_pick" = true)
    (k13 : PySem.W.keepIn K (.ref f13) = true)
    (a14 : PySem.W.nsIn K mainGlobals "_law_rule" = some (some (.ref f14)))
    (l14 : K.lookup f14 = some ⟨oc14, od14, .func (PySem.W.fnOf "_law_rule" "_law_rule" (defArgs s__law_rule) (defBody s__law_rule) (defScope s__law_rule) .none kV14 dc14 pm14 an14 cd14 ct14), sl14⟩)
    (c14 : PySem.W.codeIn K cd14 "_law_rule" = true)
    (k14 : PySem.W.keepIn K (.ref f14) = true)
    (a15 : PySem.W.nsIn K mainGlobals "_law_song" = some (some (.ref f15)))
    (l15 : K.lookup f15 = some ⟨oc15, od15, .func (PySem.W.fnOf "_law_song" "_law_song" (defArgs s__law_song) (defBody s__law_song) (defScope s__law_song) .none kV15 dc15 pm15 an15 cd15 ct15), sl15⟩)
    (c15 : PySem.W.codeIn K cd15 "_law_song" = true)
    (k15 : PySem.W.keepIn K (.ref f15) = true)
    (a16 : PySem.W.nsIn K mainGlobals "_law_weight" = some (some (.ref f16)))
    (l16 : K.lookup f16 = some ⟨oc16, od16, .func (PySem.W.fnOf "_law_weight" "_law_weight" (defArgs s__law_weight) (defBody s__law_weight) (defScope s__law_weight) .none kV16 dc16 pm16 an16 cd16 ct16), sl16⟩)
    (c16 : PySem.W.codeIn K cd16 "_law_weight" = true)
    (k16 : PySem.W.keepIn K (.ref f16) = true)
    (a17 : PySem.W.nsIn K mainGlobals "_law_step" = some (some (.ref f17)))
    (l17 : K.lookup f17 = some ⟨oc17, od17, .func (PySem.W.fnOf "_law_step" "_law_step" (defArgs s__law_step) (defBody s__law_step) (defScope s__law_step) .none kV17 dc17 pm17 an17 cd17 ct17), sl17⟩)
    (c17 : PySem.W.codeIn K cd17 "_law_step" = true)
    (k17 : PySem.W.keepIn K (.ref f17) = true)
    (a18 : PySem.W.nsIn K mainGlobals "_law_went" = some (some (.ref f18)))
    (l18 : K.lookup f18 = some ⟨oc18, od18, .func (PySem.W.fnOf "_law_went" "_law_went" (defArgs s__law_went) (defBody s__law_went) (defScope s__law_went) .none kV18 dc18 pm18 an18 cd18 ct18), sl18⟩)
    (c18 : PySem.W.codeIn K cd18 "_law_went" = true)
    (k18 : PySem.W.keepIn K (.ref f18) = true)
    (a19 : PySem.W.nsIn K mainGlobals "_law_sort" = some (some (.ref f19)))
    (l19 : K.lookup f19 = some ⟨oc19, od19, .func (PySem.W.fnOf "_law_sort" "_law_sort" (defArgs s__law_sort) (defBody s__law_sort) (defScope s__law_sort) .none kV19 dc19 pm19 an19 cd19 ct19), sl19⟩)
    (c19 : PySem.W.codeIn K cd19 "_law_sort" = true)
    (k19 : PySem.W.keepIn K (.ref f19) = true)
    (a20 : PySem.W.nsIn K mainGlobals "_law_same" = some (some (.ref f20)))
    (l20 : K.lookup f20 = some ⟨oc20, od20, .func (PySem.W.fnOf "_law_same" "_law_same" (defArgs s__law_same) (defBody s__law_same) (defScope s__law_same) .none kV20 dc20 pm20 an20 cd20 ct20), sl20⟩)
    (c20 : PySem.W.codeIn K cd20 "_law_same" = true)
    (k20 : PySem.W.keepIn K (.ref f20) = true)
    (a21 : PySem.W.nsIn K mainGlobals "_law_every" = some (some (.ref f21)))
    (l21 : K.lookup f21 = some ⟨oc21, od21, .func (PySem.W.fnOf "_law_every" "_law_every" (defArgs s__law_every) (defBody s__law_every) (defScope s__law_every) .none kV21 dc21 pm21 an21 cd21 ct21), sl21⟩)
    (c21 : PySem.W.codeIn K cd21 "_law_every" = true)
    (k21 : PySem.W.keepIn K (.ref f21) = true)
    (a22 : PySem.W.nsIn K mainGlobals "_law_name_of" = some (some (.ref f22)))
    (l22 : K.lookup f22 = some ⟨oc22, od22, .func (PySem.W.fnOf "_law_name_of" "_law_name_of" (defArgs s__law_name_of) (defBody s__law_name_of) (defScope s__law_name_of) .none kV22 dc22 pm22 an22 cd22 ct22), sl22⟩)
    (c22 : PySem.W.codeIn K cd22 "_law_name_of" = true)
    (k22 : PySem.W.keepIn K (.ref f22) = true)
    (a23 : PySem.W.nsIn K mainGlobals "_law_try" = some (some (.ref f23)))
    (l23 : K.lookup f23 = some ⟨oc23, od23, .func (PySem.W.fnOf "_law_try" "_law_try" (defArgs s__law_try) (defBody s__law_try) (defScope s__law_try) .none kV23 dc23 pm23 an23 cd23 ct23), sl23⟩)
    (c23 : PySem.W.codeIn K cd23 "_law_try" = true)
    (k23 : PySem.W.keepIn K (.ref f23) = true)
    (aL : PySem.W.nsIn K mainGlobals "law" = some (some (.ref fL)))
    (lL : K.lookup fL = some ⟨ocL, odL, .func (PySem.W.fnOf "law" "law" (defArgs s_law) (defBody s_law) (defScope s_law) .none kVL dcL pmL anL (.ref cc) ctL), slL⟩)
    (ccL : PySem.W.codeIn K (.ref cc) "law" = true)
    (hT : h.get? Pt = some (PySem.W.tabObj #[]))
    (nT : K.lookup Pt = none)
    (hC : PySem.W.codeHdIn K cc Pt = true)
    (z_isinstance : PySem.W.nsIn K mainGlobals "isinstance" = some none)
    (z_len : PySem.W.nsIn K mainGlobals "len" = some none)
    (z_all : PySem.W.nsIn K mainGlobals "all" = some none)
    (z_sum : PySem.W.nsIn K mainGlobals "sum" = some none)
    (z_int : PySem.W.nsIn K mainGlobals "int" = some none)
    (z_bool : PySem.W.nsIn K mainGlobals "bool" = some none)
    (z_str : PySem.W.nsIn K mainGlobals "str" = some none)
    (z_list : PySem.W.nsIn K mainGlobals "list" = some none)
    (z_tuple : PySem.W.nsIn K mainGlobals "tuple" = some none)
    (z_range : PySem.W.nsIn K mainGlobals "range" = some none)
    (z_zip : PySem.W.nsIn K mainGlobals "zip" = some none)
    (z_enumerate : PySem.W.nsIn K mainGlobals "enumerate" = some none)
    (z_ValueError : PySem.W.nsIn K mainGlobals "ValueError" = some none)
    (i_MOST_SIZE : PySem.W.nsIn K mainGlobals "MOST_SIZE" = some (some (.int 3 t_MOST_SIZE)))
    (i_MOST_KEEP : PySem.W.nsIn K mainGlobals "MOST_KEEP" = some (some (.int 3 t_MOST_KEEP)))
    (i_MOST_PAGES : PySem.W.nsIn K mainGlobals "MOST_PAGES" = some (some (.int 12 t_MOST_PAGES)))
    (i_MOST_FACTOR : PySem.W.nsIn K mainGlobals "MOST_FACTOR" = some (some (.int 3 t_MOST_FACTOR)))
    (i_MOST_EVENTS : PySem.W.nsIn K mainGlobals "MOST_EVENTS" = some (some (.int 60 t_MOST_EVENTS)))
    (i_MOST_LINES : PySem.W.nsIn K mainGlobals "MOST_LINES" = some (some (.int 4 t_MOST_LINES)))
    (i_MOST_SEEN : PySem.W.nsIn K mainGlobals "MOST_SEEN" = some (some (.int 6 t_MOST_SEEN)))
    (i_EVENTS : PySem.W.nsIn K mainGlobals "EVENTS" = some (some (.str "-ab" t_EVENTS)))
    (i_FIRST : PySem.W.nsIn K mainGlobals "FIRST" = some (some (.ref aF)))
    (lF : K.lookup aF = some ⟨.type "tuple", dF, .seq #[.int 0 tk0] nF, slF⟩)
    (n0 : PySem.W.nsIn K mainGlobals "InvalidRule" = some (some (.ref e0)))
    (n1 : PySem.W.nsIn K mainGlobals "InvalidRow" = some (some (.ref e1)))
    (n2 : PySem.W.nsIn K mainGlobals "InvalidSizes" = some (some (.ref e2)))
    (n3 : PySem.W.nsIn K mainGlobals "InvalidNumber" = some (some (.ref e3)))
    (n4 : PySem.W.nsIn K mainGlobals "InvalidPart" = some (some (.ref e4)))
    (n5 : PySem.W.nsIn K mainGlobals "InvalidTotals" = some (some (.ref e5)))
    (n6 : PySem.W.nsIn K mainGlobals "InvalidSeen" = some (some (.ref e6)))
    (n7 : PySem.W.nsIn K mainGlobals "InvalidEvent" = some (some (.ref e7)))
    (n8 : PySem.W.nsIn K mainGlobals "NothingToUndo" = some (some (.ref e8)))
    (n9 : PySem.W.nsIn K mainGlobals "TooMany" = some (some (.ref e9)))
    (n10 : PySem.W.nsIn K mainGlobals "InvalidText" = some (some (.ref e10)))
    (nL : PySem.W.nsIn K mainGlobals "LogError" = some (some (.ref cL)))
    (eL1 : PySem.W.subIn K (.ref cL) (.type "BaseException") = some true)
    (eL2 : PySem.W.hasDictIn K cL = true)
    (eL3 : PySem.W.typeIn K (.ref cL) = some (.type "type"))
    (eL4 : PySem.W.subIn K (.ref e6) (.ref cL) = some true)
    (xS : PySem.W.excIn K e6 [.type "ValueError", .type "Exception", .type "BaseException", .type "object"] "ValueError.__new__" = true)
    (kS : PySem.W.keepIn K (.ref e6) = true)
    (qS : PySem.W.subIn K (.ref e6) (.type "BaseException") = some true)
    (tS : PySem.W.typeIn K (.ref e6) = some (.type "type"))
    (g1 : PySem.W.findIn K (.ref e6) "__getattribute__" = some (some (.builtin "BaseException.__getattribute__")))
    (g2 : PySem.W.findIn K (.ref e6) "__getattr__" = some none)
    (g3 : PySem.W.hasDictIn K e6 = true)
    (g4 : PySem.W.findIn K (.ref e6) "__class__" = some (some (.builtin "object.__class__")))
    (g5 : PySem.W.specialIn K (.builtin "object.__class__") "__get__" = some (some (.builtin "getset_descriptor.__get__")))
    (g6 : PySem.W.takesIn K (.builtin "object.__class__") = some true)
    (g7 : PySem.W.mroIn K e6 (.type "object") = some true)
    (kv4 : PySem.W.subIn K (.ref e6) (.type "ValueError") = some true)
    (u0 : PySem.W.isClsIn K e0 = true)
    (v0 : PySem.W.typeIn K (.ref e0) = some (.type "type"))
    (w0 : PySem.W.subIn K (.ref e6) (.ref e0) = some false)
    (x0 : (Value.ref e6 == Value.ref e0) = false)
    (u1 : PySem.W.isClsIn K e1 = true)
    (v1 : PySem.W.typeIn K (.ref e1) = some (.type "type"))
    (w1 : PySem.W.subIn K (.ref e6) (.ref e1) = some false)
    (x1 : (Value.ref e6 == Value.ref e1) = false)
    (u2 : PySem.W.isClsIn K e2 = true)
    (v2 : PySem.W.typeIn K (.ref e2) = some (.type "type"))
    (w2 : PySem.W.subIn K (.ref e6) (.ref e2) = some false)
    (x2 : (Value.ref e6 == Value.ref e2) = false)
    (u3 : PySem.W.isClsIn K e3 = true)
    (v3 : PySem.W.typeIn K (.ref e3) = some (.type "type"))
    (w3 : PySem.W.subIn K (.ref e6) (.ref e3) = some false)
    (x3 : (Value.ref e6 == Value.ref e3) = false)
    (u4 : PySem.W.isClsIn K e4 = true)
    (v4 : PySem.W.typeIn K (.ref e4) = some (.type "type"))
    (w4 : PySem.W.subIn K (.ref e6) (.ref e4) = some false)
    (x4 : (Value.ref e6 == Value.ref e4) = false)
    (u5 : PySem.W.isClsIn K e5 = true)
    (v5 : PySem.W.typeIn K (.ref e5) = some (.type "type"))
    (w5 : PySem.W.subIn K (.ref e6) (.ref e5) = some false)
    (x5 : (Value.ref e6 == Value.ref e5) = false)
    (u7 : PySem.W.isClsIn K e7 = true)
    (v7 : PySem.W.typeIn K (.ref e7) = some (.type "type"))
    (w7 : PySem.W.subIn K (.ref e6) (.ref e7) = some false)
    (x7 : (Value.ref e6 == Value.ref e7) = false)
    (u8 : PySem.W.isClsIn K e8 = true)
    (v8 : PySem.W.typeIn K (.ref e8) = some (.type "type"))
    (w8 : PySem.W.subIn K (.ref e6) (.ref e8) = some false)
    (x8 : (Value.ref e6 == Value.ref e8) = false)
    (u9 : PySem.W.isClsIn K e9 = true)
    (v9 : PySem.W.typeIn K (.ref e9) = some (.type "type"))
    (w9 : PySem.W.subIn K (.ref e6) (.ref e9) = some false)
    (x9 : (Value.ref e6 == Value.ref e9) = false)
    (u10 : PySem.W.isClsIn K e10 = true)
    (v10 : PySem.W.typeIn K (.ref e10) = some (.type "type"))
    (w10 : PySem.W.subIn K (.ref e6) (.ref e10) = some false)
    (x10 : (Value.ref e6 == Value.ref e10) = false)
    : LamX.LawAtS l w K C8.CX0 9 63 "_law_script" mg fa h := by
  have e := hfa.symm.trans (PySem.W.mg_of X G aL)
  cases e
  have T : Txt K mg aF := { b_isinstance := PySem.W.mg_none_of X G z_isinstance, b_len := PySem.W.mg_none_of X G z_len, b_all := PySem.W.mg_none_of X G z_all, b_sum := PySem.W.mg_none_of X G z_sum, b_int := PySem.W.mg_none_of X G z_int, b_bool := PySem.W.mg_none_of X G z_bool, b_str := PySem.W.mg_none_of X G z_str, b_list := PySem.W.mg_none_of X G z_list, b_tuple := PySem.W.mg_none_of X G z_tuple, b_range := PySem.W.mg_none_of X G z_range, b_zip := PySem.W.mg_none_of X G z_zip, b_enumerate := PySem.W.mg_none_of X G z_enumerate, b_ValueError := PySem.W.mg_none_of X G z_ValueError, c_MOST_SIZE := ⟨_, PySem.W.mg_of X G i_MOST_SIZE, _, rfl⟩, c_MOST_KEEP := ⟨_, PySem.W.mg_of X G i_MOST_KEEP, _, rfl⟩, c_MOST_PAGES := ⟨_, PySem.W.mg_of X G i_MOST_PAGES, _, rfl⟩, c_MOST_FACTOR := ⟨_, PySem.W.mg_of X G i_MOST_FACTOR, _, rfl⟩, c_MOST_EVENTS := ⟨_, PySem.W.mg_of X G i_MOST_EVENTS, _, rfl⟩, c_EVENTS := ⟨_, PySem.W.mg_of X G i_EVENTS, _, rfl⟩, c_FIRST := ⟨_, PySem.W.mg_of X G i_FIRST, rfl⟩, tF := fun H => .inr ⟨_, _, _, lF, rfl, rfl, by show 1 ≤ sizeLine; decide, .cons ⟨_, rfl⟩ .nil⟩ }
  have T18 : Txt18 K mg aF e6 := { T with c_MOST_LINES := ⟨_, PySem.W.mg_of X G i_MOST_LINES, _, rfl⟩, c_MOST_SEEN := ⟨_, PySem.W.mg_of X G i_MOST_SEEN, _, rfl⟩, x_InvalidSeen := xS, g_InvalidSeen := PySem.W.mg_of X G n6, k_InvalidSeen := kS, q_InvalidSeen := qS, t_InvalidSeen := tS }
  have TN : NTxt K mg aF (cOf [e0, e1, e2, e3, e4, e5, e6, e7, e8, e9, e10]) := { T with c_InvalidRule := ⟨_, PySem.W.mg_of X G n0, rfl⟩, c_InvalidRow := ⟨_, PySem.W.mg_of X G n1, rfl⟩, c_InvalidSizes := ⟨_, PySem.W.mg_of X G n2, rfl⟩, c_InvalidNumber := ⟨_, PySem.W.mg_of X G n3, rfl⟩, c_InvalidPart := ⟨_, PySem.W.mg_of X G n4, rfl⟩, c_InvalidTotals := ⟨_, PySem.W.mg_of X G n5, rfl⟩, c_InvalidSeen := ⟨_, PySem.W.mg_of X G n6, rfl⟩, c_InvalidEvent := ⟨_, PySem.W.mg_of X G n7, rfl⟩, c_NothingToUndo := ⟨_, PySem.W.mg_of X G n8, rfl⟩, c_TooMany := ⟨_, PySem.W.mg_of X G n9, rfl⟩, c_InvalidText := ⟨_, PySem.W.mg_of X G n10, rfl⟩ }
  have hD : IsD K (cOf [e0, e1, e2, e3, e4, e5, e6, e7, e8, e9, e10]) e6 6 := ⟨⟨g1, g2, qS, g3, g4, g5, g6, g7⟩, fun i hi => by
    have : i = 0 ∨ i = 1 ∨ i = 2 ∨ i = 3 ∨ i = 4 ∨ i = 5 ∨ i = 6 ∨ i = 7 ∨ i = 8 ∨ i = 9 ∨ i = 10 := by omega
    rcases this with rfl | rfl | rfl | rfl | rfl | rfl | rfl | rfl | rfl | rfl | rfl
    · exact kit_ref u0 v0 w0 x0
    · exact kit_ref u1 v1 w1 x1
    · exact kit_ref u2 v2 w2 x2
    · exact kit_ref u3 v3 w3 x3
    · exact kit_ref u4 v4 w4 x4
    · exact kit_ref u5 v5 w5 x5
    · exact kit_self
    · exact kit_ref u7 v7 w7 x7
    · exact kit_ref u8 v8 w8 x8
    · exact kit_ref u9 v9 w9 x9
    · exact kit_ref u10 v10 w10 x10, kit_ty2 (by decide +kernel) kv4 rfl⟩
  have Fis_from : DefK K mg "is_from" s_is_from ["value", "low", "high"] := ⟨f0, _, fun_mk (st := s_is_from) l0 c0 k0, PySem.W.mg_of X G a0, (fun_mk (st := s_is_from) l0 c0 k0).binds (ps := ["value", "low", "high"]) fun _ _ _ _ _ _ us hl => match us, hl with | [_, _, _], _ => rfl⟩
  have Fpages_of : DefK K mg "pages_of" s_pages_of ["rule", "sizes"] := ⟨f1, _, fun_mk (st := s_pages_of) l1 c1 k1, PySem.W.mg_of X G a1, (fun_mk (st := s_pages_of) l1 c1 k1).binds (ps := ["rule", "sizes"]) fun _ _ _ _ _ _ us hl => match us, hl with | [_, _], _ => rfl⟩
  have Fturned : DefK K mg "turned" s_turned ["rule", "sizes"] := ⟨f2, _, fun_mk (st := s_turned) l2 c2 k2, PySem.W.mg_of X G a2, (fun_mk (st := s_turned) l2 c2 k2).binds (ps := ["rule", "sizes"]) fun _ _ _ _ _ _ us hl => match us, hl with | [_, _], _ => rfl⟩
  have Fwithin : DefK K mg "within" s_within ["rule", "sizes"] := ⟨f3, _, fun_mk (st := s_within) l3 c3 k3, PySem.W.mg_of X G a3, (fun_mk (st := s_within) l3 c3 k3).binds (ps := ["rule", "sizes"]) fun _ _ _ _ _ _ us hl => match us, hl with | [_, _], _ => rfl⟩
  have Fmoved : DefK K mg "moved" s_moved ["rule", "sizes", "event"] := ⟨f4, _, fun_mk (st := s_moved) l4 c4 k4, PySem.W.mg_of X G a4, (fun_mk (st := s_moved) l4 c4 k4).binds (ps := ["rule", "sizes", "event"]) fun _ _ _ _ _ _ us hl => match us, hl with | [_, _, _], _ => rfl⟩
  have Fwalked : DefK K mg "walked" s_walked ["rule", "sizes", "row"] := ⟨f5, _, fun_mk (st := s_walked) l5 c5 k5, PySem.W.mg_of X G a5, (fun_mk (st := s_walked) l5 c5 k5).binds (ps := ["rule", "sizes", "row"]) fun _ _ _ _ _ _ us hl => match us, hl with | [_, _, _], _ => rfl⟩
  have Fbehind : DefK K mg "behind" s_behind ["rule", "row"] := ⟨f6, _, fun_mk (st := s_behind) l6 c6 k6, PySem.W.mg_of X G a6, (fun_mk (st := s_behind) l6 c6 k6).binds (ps := ["rule", "row"]) fun _ _ _ _ _ _ us hl => match us, hl with | [_, _], _ => rfl⟩
  have Fvalues_of : DefK K mg "values_of" s_values_of ["index"] := ⟨f7, _, fun_mk (st := s_values_of) l7 c7 k7, PySem.W.mg_of X G a7, (fun_mk (st := s_values_of) l7 c7 k7).binds (ps := ["index"]) fun _ _ _ _ _ _ us hl => match us, hl with | [_], _ => rfl⟩
  have Fevery_rule : DefK K mg "every_rule" s_every_rule [] := ⟨f8, _, fun_mk (st := s_every_rule) l8 c8 k8, PySem.W.mg_of X G a8, (fun_mk (st := s_every_rule) l8 c8 k8).binds (ps := []) fun _ _ _ _ _ _ us hl => match us, hl with | [], _ => rfl⟩
  have Fis_row_of : DefK K mg "is_row_of" s_is_row_of ["value"] := ⟨f9, _, fun_mk (st := s_is_row_of) l9 c9 k9, PySem.W.mg_of X G a9, (fun_mk (st := s_is_row_of) l9 c9 k9).binds (ps := ["value"]) fun _ _ _ _ _ _ us hl => match us, hl with | [_], _ => rfl⟩
  have Fare_sizes_of : DefK K mg "are_sizes_of" s_are_sizes_of ["value"] := ⟨f10, _, fun_mk (st := s_are_sizes_of) l10 c10 k10, PySem.W.mg_of X G a10, (fun_mk (st := s_are_sizes_of) l10 c10 k10).binds (ps := ["value"]) fun _ _ _ _ _ _ us hl => match us, hl with | [_], _ => rfl⟩
  have Frules_for : DefK K mg "rules_for" s_rules_for ["seen"] := ⟨f11, _, fun_mk (st := s_rules_for) l11 c11 k11, PySem.W.mg_of X G a11, (fun_mk (st := s_rules_for) l11 c11 k11).binds (ps := ["seen"]) fun _ _ _ _ _ _ us hl => match us, hl with | [_], _ => rfl⟩
  have F_law_deck : DefK K mg "_law_deck" s__law_deck ["_law_cell", "_law_turn"] := ⟨f12, _, fun_mk (st := s__law_deck) l12 c12 k12, PySem.W.mg_of X G a12, (fun_mk (st := s__law_deck) l12 c12 k12).binds (ps := ["_law_cell", "_law_turn"]) fun _ _ _ _ _ _ us hl => match us, hl with | [_, _], _ => rfl⟩
  have F_law_pick : DefK K mg "_law_pick" s__law_pick ["_law_deck_here", "_law_limit"] := ⟨f13, _, fun_mk (st := s__law_pick) l13 c13 k13, PySem.W.mg_of X G a13, (fun_mk (st := s__law_pick) l13 c13 k13).binds (ps := ["_law_deck_here", "_law_limit"]) fun _ _ _ _ _ _ us hl => match us, hl with | [_, _], _ => rfl⟩
  have F_law_rule : DefK K mg "_law_rule" s__law_rule ["_law_deck_here"] := ⟨f14, _, fun_mk (st := s__law_rule) l14 c14 k14, PySem.W.mg_of X G a14, (fun_mk (st := s__law_rule) l14 c14 k14).binds (ps := ["_law_deck_here"]) fun _ _ _ _ _ _ us hl => match us, hl with | [_], _ => rfl⟩
  have F_law_song : DefK K mg "_law_song" s__law_song ["_law_deck_here", "_law_most"] := ⟨f15, _, fun_mk (st := s__law_song) l15 c15 k15, PySem.W.mg_of X G a15, (fun_mk (st := s__law_song) l15 c15 k15).binds (ps := ["_law_deck_here", "_law_most"]) fun _ _ _ _ _ _ us hl => match us, hl with | [_, _], _ => rfl⟩
  have F_law_weight : DefK K mg "_law_weight" s__law_weight ["_law_r", "_law_line"] := ⟨f16, _, fun_mk (st := s__law_weight) l16 c16 k16, PySem.W.mg_of X G a16, (fun_mk (st := s__law_weight) l16 c16 k16).binds (ps := ["_law_r", "_law_line"]) fun _ _ _ _ _ _ us hl => match us, hl with | [_, _], _ => rfl⟩
  have F_law_step : DefK K mg "_law_step" s__law_step ["_law_r", "_law_here", "_law_event"] := ⟨f17, _, fun_mk (st := s__law_step) l17 c17 k17, PySem.W.mg_of X G a17, (fun_mk (st := s__law_step) l17 c17 k17).binds (ps := ["_law_r", "_law_here", "_law_event"]) fun _ _ _ _ _ _ us hl => match us, hl with | [_, _, _], _ => rfl⟩
  have F_law_went : DefK K mg "_law_went" s__law_went ["_law_r", "_law_here", "_law_song_here"] := ⟨f18, _, fun_mk (st := s__law_went) l18 c18 k18, PySem.W.mg_of X G a18, (fun_mk (st := s__law_went) l18 c18 k18).binds (ps := ["_law_r", "_law_here", "_law_song_here"]) fun _ _ _ _ _ _ us hl => match us, hl with | [_, _, _], _ => rfl⟩
  have F_law_sort : DefK K mg "_law_sort" s__law_sort ["_law_thing"] := ⟨f19, _, fun_mk (st := s__law_sort) l19 c19 k19, PySem.W.mg_of X G a19, (fun_mk (st := s__law_sort) l19 c19 k19).binds (ps := ["_law_thing"]) fun _ _ _ _ _ _ us hl => match us, hl with | [_], _ => rfl⟩
  have F_law_same : DefK K mg "_law_same" s__law_same ["_law_told", "_law_due"] := ⟨f20, _, fun_mk (st := s__law_same) l20 c20 k20, PySem.W.mg_of X G a20, (fun_mk (st := s__law_same) l20 c20 k20).binds (ps := ["_law_told", "_law_due"]) fun _ _ _ _ _ _ us hl => match us, hl with | [_, _], _ => rfl⟩
  have F_law_every : DefK K mg "_law_every" s__law_every [] := ⟨f21, _, fun_mk (st := s__law_every) l21 c21 k21, PySem.W.mg_of X G a21, (fun_mk (st := s__law_every) l21 c21 k21).binds (ps := []) fun _ _ _ _ _ _ us hl => match us, hl with | [], _ => rfl⟩
  have F_law_name_of : DefK K mg "_law_name_of" s__law_name_of ["_law_e"] := ⟨f22, _, fun_mk (st := s__law_name_of) l22 c22 k22, PySem.W.mg_of X G a22, (fun_mk (st := s__law_name_of) l22 c22 k22).binds (ps := ["_law_e"]) fun _ _ _ _ _ _ us hl => match us, hl with | [_], _ => rfl⟩
  have F_law_try : DefK K mg "_law_try" s__law_try ["_law_door"] := ⟨f23, _, fun_mk (st := s__law_try) l23 c23 k23, PySem.W.mg_of X G a23, (fun_mk (st := s__law_try) l23 c23 k23).binds (ps := ["_law_door"]) fun _ _ _ _ _ _ us hl => match us, hl with | [_], _ => rfl⟩
  refine ⟨PySem.W.fnOf "law" "law" (defArgs s_law) (defBody s_law) (defScope s_law) .none kVL dcL pmL anL (.ref cc) ctL, [(cc, Pt)], spLaw K Pt, fun p hp => ?_, fun p hp => ?_, fun p hp => ?_, fun s u => .of_eq rfl, fun H a ns hn _ hH hS => ⟨a, ns, rfl, hS, hn, hH _ List.mem_cons_self, fun _ => rfl⟩, fun base KB GB TB => ?_⟩
  · rw [List.mem_singleton.mp hp]; exact hT
  · rw [List.mem_singleton.mp hp]; exact nT
  · rw [List.mem_singleton.mp hp]; exact PySem.W.codeHd_of_K X hC
  have Kis_from := cal_is_from (P := l.prog) (w := w) (base := base) T Fis_from
  have Kpages_of := cal_pages_of (P := l.prog) (w := w) (base := base) T Fpages_of
  have Kturned := cal_turned (P := l.prog) (w := w) (base := base) T Fturned
  have Kwithin := cal_within (P := l.prog) (w := w) (base := base) T Fwithin Kpages_of
  have Kmoved := cal_moved (P := l.prog) (w := w) (base := base) T Fmoved Kturned Kwithin
  have Kwalked := cal_walked (P := l.prog) (w := w) (base := base) T Fwalked Kmoved
  have Kbehind := cal_behind (P := l.prog) (w := w) (base := base) T Fbehind Kwalked
  have Kvalues_of := cal_values_of (P := l.prog) (w := w) (base := base) T Fvalues_of
  have Kevery_rule := cal_every_rule (P := l.prog) (w := w) (base := base) T Fevery_rule Kvalues_of
  have Kis_row_of := cal_is_row_of (P := l.prog) (w := w) (base := base) T Fis_row_of
  have Kare_sizes_of := cal_are_sizes_of (P := l.prog) (w := w) (base := base) T18 Fare_sizes_of Kis_from
  have Krules_for := cal_rules_for (P := l.prog) (w := w) (base := base) T18 Frules_for Kevery_rule Kbehind Kis_row_of Kare_sizes_of
  have K_law_deck := cal__law_deck (P := l.prog) (w := w) (base := base) T F_law_deck
  have K_law_pick := cal__law_pick (P := l.prog) (w := w) (base := base) T F_law_pick
  have K_law_rule := cal__law_rule (P := l.prog) (w := w) (base := base) T F_law_rule K_law_pick
  have K_law_song := cal__law_song (P := l.prog) (w := w) (base := base) T F_law_song K_law_pick
  have K_law_weight := cal__law_weight (P := l.prog) (w := w) (base := base) T F_law_weight
  have K_law_step := cal__law_step (P := l.prog) (w := w) (base := base) T F_law_step K_law_weight
  have K_law_went := cal__law_went (P := l.prog) (w := w) (base := base) T F_law_went K_law_step
  have K_law_sort := cal__law_sort (P := l.prog) (w := w) (base := base) T F_law_sort
  have K_law_same := cal__law_same (P := l.prog) (w := w) (base := base) T F_law_same K_law_sort 3
  have K_law_every := cal__law_every (P := l.prog) (w := w) (base := base) T F_law_every
  have K_law_name_of := cal__law_name_of (P := l.prog) (w := w) (base := base) TN F_law_name_of hD rfl (by decide)
  exact ok_law T lL ccL (TB _ List.mem_cons_self) K_law_every K_law_deck K_law_rule K_law_pick K_law_song K_law_went Krules_for K_law_same K_law_name_of F_law_try (PySem.W.mg_of X G nL) (PySem.W.exm_ref eL1 eL2 eL3 eL4)
end
end Tlg
open PySem PySem.W PyProof.Rows
set_option maxRecDepth 100000 in
set_option maxHeartbeats 0 in
theorem PySem.Challenge.cw_turnedlogs_k18_whole_rules_for_sizes_holds : PySem.Challenge.rw_turnedlogs_k18_whole_rules_for_sizes.Holds := by
  w_on; o_law; k_head; (case hw => w_witness2)
  k_fill
  refine LamX.walk_ofTs (n := 63) (k := 9) (CX := fun _ => C8.CX0) (x := "_law_script") rfl (by decide) rfl ⟨rfl, by decide, by decide⟩ (fun w h Y => PySem.W.km_in_of Y) ?F fun _ _ _ _ _ z => z
  case F =>
    intro w mg fa h Y KX G hmg
    refine' Tlg.all18 KX G hmg ?a0 ?l0 ?c0 ?k0 ?a1 ?l1 ?c1 ?k1 ?a2 ?l2 ?c2 ?k2 ?a3 ?l3 ?c3 ?k3 ?a4 ?l4 ?c4 ?k4 ?a5 ?l5 ?c5 ?k5 ?a6 ?l6 ?c6 ?k6 ?a7 ?l7 ?c7 ?k7 ?a8 ?l8 ?c8 ?k8 ?a9 ?l9 ?c9 ?k9 ?a10 ?l10 ?c10 ?k10 ?a11 ?l11 ?c11 ?k11 ?a12 ?l12 ?c12 ?k12 ?a13 ?l13 ?c13 ?k13 ?a14 ?l14 ?c14 ?k14 ?a15 ?l15 ?c15 ?k15 ?a16 ?l16 ?c16 ?k16 ?a17 ?l17 ?c17 ?k17 ?a18 ?l18 ?c18 ?k18 ?a19 ?l19 ?c19 ?k19 ?a20 ?l20 ?c20 ?k20 ?a21 ?l21 ?c21 ?k21 ?a22 ?l22 ?c22 ?k22 ?a23 ?l23 ?c23 ?k23 ?aL ?lL ?ccL (PySem.W.km_tabs_of Y _ List.mem_cons_self) ?nT ?hC ?z_isinstance ?z_len ?z_all ?z_sum ?z_int ?z_bool ?z_str ?z_list ?z_tuple ?z_range ?z_zip ?z_enumerate ?z_ValueError ?i_MOST_SIZE ?i_MOST_KEEP ?i_MOST_PAGES ?i_MOST_FACTOR ?i_MOST_EVENTS ?i_MOST_LINES ?i_MOST_SEEN ?i_EVENTS ?i_FIRST ?lF ?n0 ?n1 ?n2 ?n3 ?n4 ?n5 ?n6 ?n7 ?n8 ?n9 ?n10 ?nL ?eL1 ?eL2 ?eL3 ?eL4 ?xS ?kS ?qS ?tS ?g1 ?g2 ?g3 ?g4 ?g5 ?g6 ?g7 ?kv4 ?u0 ?v0 ?w0 ?x0 ?u1 ?v1 ?w1 ?x1 ?u2 ?v2 ?w2 ?x2 ?u3 ?v3 ?w3 ?x3 ?u4 ?v4 ?w4 ?x4 ?u5 ?v5 ?w5 ?x5 ?u7 ?v7 ?w7 ?x7 ?u8 ?v8 ?w8 ?x8 ?u9 ?v9 ?w9 ?x9 ?u10 ?v10 ?w10 ?x10
    (case a0 => first | k_is | rfl)
    (case l0 => first | k_is | rfl)
    (case c0 => first | k_is | rfl)
    (case k0 => first | k_is | rfl)
    (case a1 => first | k_is | rfl)
    (case l1 => first | k_is | rfl)
    (case c1 => first | k_is | rfl)
    (case k1 => first | k_is | rfl)
    (case a2 => first | k_is | rfl)
    (case l2 => first | k_is | rfl)
    (case c2 => first | k_is | rfl)
    (case k2 => first | k_is | rfl)
    (case a3 => first | k_is | rfl)
    (case l3 => first | k_is | rfl)
    (case c3 => first | k_is | rfl)
    (case k3 => first | k_is | rfl)
    (case a4 => first | k_is | rfl)
    (case l4 => first | k_is | rfl)
    (case c4 => first | k_is | rfl)
    (case k4 => first | k_is | rfl)
    (case a5 => first | k_is | rfl)
    (case l5 => first | k_is | rfl)
    (case c5 => first | k_is | rfl)
    (case k5 => first | k_is | rfl)
    (case a6 => first | k_is | rfl)
    (case l6 => first | k_is | rfl)
    (case c6 => first | k_is | rfl)
    (case k6 => first | k_is | rfl)
    (case a7 => first | k_is | rfl)
    (case l7 => first | k_is | rfl)
    (case c7 => first | k_is | rfl)
    (case k7 => first | k_is | rfl)
    (case a8 => first | k_is | rfl)
    (case l8 => first | k_is | rfl)
    (case c8 => first | k_is | rfl)
    (case k8 => first | k_is | rfl)
    (case a9 => first | k_is | rfl)
    (case l9 => first | k_is | rfl)
    (case c9 => first | k_is | rfl)
    (case k9 => first | k_is | rfl)
    (case a10 => first | k_is | rfl)
    (case l10 => first | k_is | rfl)
    (case c10 => first | k_is | rfl)
    (case k10 => first | k_is | rfl)
    (case a11 => first | k_is | rfl)
    (case l11 => first | k_is | rfl)
    (case c11 => first | k_is | rfl)
    (case k11 => first | k_is | rfl)
    (case a12 => first | k_is | rfl)
    (case l12 => first | k_is | rfl)
    (case c12 => first | k_is | rfl)
    (case k12 => first | k_is | rfl)
    (case a13 => first | k_is | rfl)
    (case l13 => first | k_is | rfl)
    (case c13 => first | k_is | rfl)
    (case k13 => first | k_is | rfl)
    (case a14 => first | k_is | rfl)
    (case l14 => first | k_is | rfl)
    (case c14 => first | k_is | rfl)
    (case k14 => first | k_is | rfl)
    (case a15 => first | k_is | rfl)
    (case l15 => first | k_is | rfl)
    (case c15 => first | k_is | rfl)
    (case k15 => first | k_is | rfl)
    (case a16 => first | k_is | rfl)
    (case l16 => first | k_is | rfl)
    (case c16 => first | k_is | rfl)
    (case k16 => first | k_is | rfl)
    (case a17 => first | k_is | rfl)
    (case l17 => first | k_is | rfl)
    (case c17 => first | k_is | rfl)
    (case k17 => first | k_is | rfl)
    (case a18 => first | k_is | rfl)
    (case l18 => first | k_is | rfl)
    (case c18 => first | k_is | rfl)
    (case k18 => first | k_is | rfl)
    (case a19 => first | k_is | rfl)
    (case l19 => first | k_is | rfl)
    (case c19 => first | k_is | rfl)
    (case k19 => first | k_is | rfl)
    (case a20 => first | k_is | rfl)
    (case l20 => first | k_is | rfl)
    (case c20 => first | k_is | rfl)
    (case k20 => first | k_is | rfl)
    (case a21 => first | k_is | rfl)
    (case l21 => first | k_is | rfl)
    (case c21 => first | k_is | rfl)
    (case k21 => first | k_is | rfl)
    (case a22 => first | k_is | rfl)
    (case l22 => first | k_is | rfl)
    (case c22 => first | k_is | rfl)
    (case k22 => first | k_is | rfl)
    (case a23 => first | k_is | rfl)
    (case l23 => first | k_is | rfl)
    (case c23 => first | k_is | rfl)
    (case k23 => first | k_is | rfl)
    (case aL => first | k_is | rfl)
    (case lL => first | k_is | rfl)
    (case ccL => first | k_is | rfl)
    (case nT => first | rfl | kernel_rfl | decide +kernel)
    (case hC => first | rfl | kernel_rfl | decide +kernel)
    (case z_isinstance => first | k_is | rfl)
    (case z_len => first | k_is | rfl)
    (case z_all => first | k_is | rfl)
    (case z_sum => first | k_is | rfl)
    (case z_int => first | k_is | rfl)
    (case z_bool => first | k_is | rfl)
    (case z_str => first | k_is | rfl)
    (case z_list => first | k_is | rfl)
    (case z_tuple => first | k_is | rfl)
    (case z_range => first | k_is | rfl)
    (case z_zip => first | k_is | rfl)
    (case z_enumerate => first | k_is | rfl)
    (case z_ValueError => first | k_is | rfl)
    (case i_MOST_SIZE => first | k_is | rfl)
    (case i_MOST_KEEP => first | k_is | rfl)
    (case i_MOST_PAGES => first | k_is | rfl)
    (case i_MOST_FACTOR => first | k_is | rfl)
    (case i_MOST_EVENTS => first | k_is | rfl)
    (case i_MOST_LINES => first | k_is | rfl)
    (case i_MOST_SEEN => first | k_is | rfl)
    (case i_EVENTS => first | k_is | rfl)
    (case i_FIRST => first | k_is | rfl)
    (case lF => first | k_is | rfl)
    (case n0 => first | k_is | rfl)
    (case n1 => first | k_is | rfl)
    (case n2 => first | k_is | rfl)
    (case n3 => first | k_is | rfl)
    (case n4 => first | k_is | rfl)
    (case n5 => first | k_is | rfl)
    (case n6 => first | k_is | rfl)
    (case n7 => first | k_is | rfl)
    (case n8 => first | k_is | rfl)
    (case n9 => first | k_is | rfl)
    (case n10 => first | k_is | rfl)
    (case nL => first | k_is | rfl)
    (case eL1 => first | k_is | rfl)
    (case eL2 => first | k_is | rfl)
    (case eL3 => first | k_is | rfl)
    (case eL4 => first | k_is | rfl)
    (case xS => k_exc)
    (case kS => first | k_is | rfl)
    (case qS => first | k_is | rfl)
    (case tS => first | k_is | rfl)
    (case g1 => first | k_is | rfl)
    (case g2 => first | k_is | rfl)
    (case g3 => first | k_is | rfl)
    (case g4 => first | k_is | rfl)
    (case g5 => first | k_is | rfl)
    (case g6 => first | k_is | rfl)
    (case g7 => first | k_is | rfl)
    (case kv4 => first | k_is | rfl)
    (case u0 => first | k_is | rfl)
    (case v0 => first | k_is | rfl)
    (case w0 => first | k_is | rfl)
    (case x0 => first | rfl | decide)
    (case u1 => first | k_is | rfl)
    (case v1 => first | k_is | rfl)
    (case w1 => first | k_is | rfl)
    (case x1 => first | rfl | decide)
    (case u2 => first | k_is | rfl)
    (case v2 => first | k_is | rfl)
    (case w2 => first | k_is | rfl)
    (case x2 => first | rfl | decide)
    (case u3 => first | k_is | rfl)
    (case v3 => first | k_is | rfl)
    (case w3 => first | k_is | rfl)
    (case x3 => first | rfl | decide)
    (case u4 => first | k_is | rfl)
    (case v4 => first | k_is | rfl)
    (case w4 => first | k_is | rfl)
    (case x4 => first | rfl | decide)
    (case u5 => first | k_is | rfl)
    (case v5 => first | k_is | rfl)
    (case w5 => first | k_is | rfl)
    (case x5 => first | rfl | decide)
    (case u7 => first | k_is | rfl)
    (case v7 => first | k_is | rfl)
    (case w7 => first | k_is | rfl)
    (case x7 => first | rfl | decide)
    (case u8 => first | k_is | rfl)
    (case v8 => first | k_is | rfl)
    (case w8 => first | k_is | rfl)
    (case x8 => first | rfl | decide)
    (case u9 => first | k_is | rfl)
    (case v9 => first | k_is | rfl)
    (case w9 => first | k_is | rfl)
    (case x9 => first | rfl | decide)
    (case u10 => first | k_is | rfl)
    (case v10 => first | k_is | rfl)
    (case w10 => first | k_is | rfl)
    (case x10 => first | rfl | decide)
