import PyProof.Rows.All
import Wide.All
import OpenK.AllK
import Wide.FinOn
import PyProof.EqAt
import PyProof.EqKinds
import PyProof.TupleCall
import Open.SpecLaws
import KE.OsHead
import KE.OsGo
import HandS.ForSpec
import HandS.Comp
import HandS.SetFor
import KE.KEqSeq
import HandS.Evl
import PySem.Challenge.RW_weekplays_s01_answers
set_option Elab.async false
set_option linter.all false
set_option maxRecDepth 100000
set_option maxHeartbeats 4000000
namespace Wp
open Uw05

/-- a week within its bounds -/
structure Ok (w : Week) : Prop where
  nl : w.nights.length ≤ 6
  nv : ∀ x, x ∈ w.nights → x ≤ 300
  pl : w.plays.length ≤ 4
  pb : ∀ p, p ∈ w.plays → 1 ≤ p.brings.length ∧ p.brings.length ≤ 6

/-- a bill of the week's plays -/
structure Fit (w : Week) (b : Bill) : Prop where
  len : b.length ≤ w.nights.length
  le : ∀ x, x ∈ b → x ≤ w.plays.length

def ins (l : List Nat) : List Int := l.map fun (n : Nat) => (n : Int)

theorem ins_nil : ins [] = [] := rfl
theorem ins_cons (a : Nat) (l : List Nat) : ins (a :: l) = (a : Int) :: ins l := rfl
theorem ins_append (a b : List Nat) : ins (a ++ b) = ins a ++ ins b := List.map_append
theorem ins_length (l : List Nat) : (ins l).length = l.length := List.length_map _
theorem ins_get (l : List Nat) (i : Nat) : (ins l)[i]? = l[i]?.map fun (n : Nat) => (n : Int) := List.getElem?_map

theorem play_zero (w : Week) : w.play 0 = none := if_pos rfl
theorem play_pos {w : Week} {k : Nat} {p : Play} (h0 : k ≠ 0) (h : w.plays[k - 1]? = some p) : w.play k = some p := by
  show (if k = 0 then none else w.plays[k - 1]?) = some p
  rw [if_neg h0, h]
theorem play_at {w : Week} {k : Nat} (h0 : k ≠ 0) (h : k ≤ w.plays.length) : ∃ p, w.plays[k - 1]? = some p ∧ w.play k = some p := by
  have hl : k - 1 < w.plays.length := by omega
  exact ⟨_, List.getElem?_eq_getElem hl, play_pos h0 (List.getElem?_eq_getElem hl)⟩

/-! what a night takes -/
def taken (w : Week) (i k b : Nat) : Nat := match w.play k with
  | none => 0
  | some p => (p.brings.getD (min b (p.brings.length - 1)) 0) * w.nights.getD i 0 / 100
theorem takes_eq (w : Week) (b : Bill) (i : Nat) : w.takes b i = taken w i (b.getD i 0) (times (b.take i) (b.getD i 0)) := rfl
theorem taken_zero (w : Week) (i b : Nat) : taken w i 0 b = 0 := rfl
theorem taken_pos {w : Week} {i k b : Nat} {p : Play} (h : w.play k = some p) : taken w i k b = (p.brings.getD (min b (p.brings.length - 1)) 0) * w.nights.getD i 0 / 100 := by
  unfold taken
  rw [h]
theorem times_count : ∀ (b : List Nat) (k : Nat), (ins b).count (k : Int) = times b k
  | [], _ => rfl
  | a :: b, k => by
    have ih := times_count b k
    unfold times at ih ⊢
    rw [ins_cons, List.count_cons, ih, List.filter_cons]
    by_cases h : a = k
    · subst h
      simp
    · have h1 : ¬ ((a : Int) = (k : Int)) := by omega
      simp [h, h1]
def takeL (w : Week) (b : Bill) : List Nat := (List.range b.length).map (w.takes b)
theorem takeL_length (w : Week) (b : Bill) : (takeL w b).length = b.length := by simp [takeL]
theorem fold_add : ∀ (l : List Nat) (a : Nat), l.foldl (fun a b => a + b) a = a + l.foldl (fun a b => a + b) 0
  | [], a => rfl
  | x :: l, a => by
    show l.foldl (fun a b => a + b) (a + x) = a + l.foldl (fun a b => a + b) (0 + x)
    rw [fold_add l (a + x), fold_add l (0 + x)]
    omega
theorem sum_fold : ∀ l : List Nat, (ins l).sum = ((l.foldl (fun a b => a + b) 0 : Nat) : Int)
  | [] => rfl
  | x :: l => by
    rw [ins_cons, List.sum_cons, sum_fold l]
    show _ = ((l.foldl (fun a b => a + b) (0 + x) : Nat) : Int)
    rw [fold_add l (0 + x)]
    omega
theorem took_sum (w : Week) (b : Bill) : (ins (takeL w b)).sum = ((w.took b : Nat) : Int) := sum_fold _

/-! what work costs -/
def setUp (w : Week) (k b : Nat) : Nat := if k = 0 ∨ k = b then 0 else match w.play k with
  | none => 0
  | some p => p.set
def strikeC (w : Week) (k b : Nat) : Nat := if k = 0 ∨ k = b then 0 else match w.play k with
  | none => 0
  | some p => p.strike
def around (b : Bill) : List Nat := 0 :: (b ++ [0])
theorem around_length (b : Bill) : (around b).length = b.length + 2 := by simp [around]
def workUp (w : Week) (b : Bill) : Nat → Nat
  | 0 => 0
  | n + 1 => workUp w b n + setUp w ((around b).getD (n + 1) 0) ((around b).getD n 0) + strikeC w ((around b).getD (n + 1) 0) ((around b).getD (n + 2) 0)
theorem getD_append_l {b c : List Nat} {i : Nat} (h : i < b.length) : (b ++ c).getD i 0 = b.getD i 0 := by
  rw [List.getD_eq_getElem?_getD, List.getD_eq_getElem?_getD, List.getElem?_append_left h]
theorem around_at {b : Bill} {i : Nat} (h : i ≤ b.length) : (around b).getD (i + 1) 0 = b.getD i 0 := by
  show (b ++ [0]).getD i 0 = b.getD i 0
  by_cases e : i < b.length
  · exact getD_append_l e
  · have e2 : i = b.length := by omega
    subst e2
    simp [List.getD_eq_getElem?_getD]
def workAt (w : Week) (b : Bill) (i : Nat) : Nat := match w.play (b.getD i 0) with
  | none => 0
  | some p => (if 0 < i ∧ b.getD (i - 1) 0 = b.getD i 0 then 0 else p.set) + (if i + 1 < b.length ∧ b.getD (i + 1) 0 = b.getD i 0 then 0 else p.strike)
theorem getD_off {b : List Nat} {i : Nat} (h : b.length ≤ i) : b.getD i 0 = 0 := by
  rw [List.getD_eq_getElem?_getD, List.getElem?_eq_none h]
  rfl
theorem workAt_eq {w : Week} {b : Bill} {i : Nat} (h : i < b.length) :
    setUp w ((around b).getD (i + 1) 0) ((around b).getD i 0) + strikeC w ((around b).getD (i + 1) 0) ((around b).getD (i + 2) 0) = workAt w b i := by
  rw [around_at (Nat.le_of_lt h), around_at (show i + 1 ≤ b.length from h)]
  have e0 : (around b).getD i 0 = if 0 < i then b.getD (i - 1) 0 else 0 := by
    match i, h with
    | 0, _ => rfl
    | j + 1, h => rw [around_at (by omega), if_pos (by omega)]; rfl
  rw [e0]
  unfold setUp strikeC workAt
  generalize hk : b.getD i 0 = k
  cases hp : w.play k with
  | none => simp
  | some p =>
    have k0 : k ≠ 0 := by
      intro e
      rw [e, play_zero] at hp
      cases hp
    dsimp only
    congr 1
    · by_cases hi : 0 < i
      · simp only [hi, if_true, true_and, k0, false_or]
        by_cases c : b.getD (i - 1) 0 = k
        · rw [if_pos c.symm, if_pos c]
        · rw [if_neg (fun e => c e.symm), if_neg c]
      · simp [hi, k0]
    · by_cases hi : i + 1 < b.length
      · simp only [hi, true_and, k0, false_or]
        by_cases c : b.getD (i + 1) 0 = k
        · rw [if_pos c.symm, if_pos c]
        · rw [if_neg (fun e => c e.symm), if_neg c]
      · rw [getD_off (by omega : b.length ≤ i + 1)]
        simp [hi, k0]
theorem workUp_eq (w : Week) (b : Bill) : ∀ n, n ≤ b.length → workUp w b n = ((List.range n).map (workAt w b)).foldl (fun a b => a + b) 0
  | 0, _ => rfl
  | n + 1, h => by
    rw [List.range_succ, List.map_append, List.foldl_append, ← workUp_eq w b n (by omega)]
    show workUp w b n + _ + _ = workUp w b n + workAt w b n
    rw [← workAt_eq (show n < b.length from h)]
    omega
theorem works_eq (w : Week) (b : Bill) : workUp w b b.length = w.works b := workUp_eq w b b.length (Nat.le_refl _)
theorem left_eq (w : Week) (b : Bill) : w.left b = (ins (takeL w b)).sum - ((w.works b : Nat) : Int) := by
  rw [took_sum]
  rfl

/-! what's wrong -/
def runAt (w : Week) (b : Bill) (i : Nat) : Bool := 0 < i && (b.getD i 0 != 0 && (b.getD (i - 1) 0 == b.getD i 0 && ((w.play (b.getD i 0)).any fun p => !p.runs)))
def wrongL (w : Week) (b : Bill) : List Nat := match w.wrong b with
  | none => []
  | some x => [x.1, x.2]
/-- what's wrong with one play -/
def oftenAt (w : Week) (b : Bill) (k : Nat) : Option (Nat × Nat) := match w.plays[k]? with
  | none => none
  | some p => if times b (k + 1) < p.least then some (2, k + 1) else if p.most < times b (k + 1) then some (3, k + 1) else none
theorem findSome_zipIdx {α β : Type} (f : α × Nat → Option β) : ∀ (l : List α) (n : Nat),
    (l.zipIdx n).findSome? f = none → ∀ i a, l[i]? = some a → f (a, n + i) = none
  | [], _, _, i, a, h => by simp at h
  | x :: l, n, hn, i, a, h => by
    rw [List.zipIdx_cons, List.findSome?_cons] at hn
    cases e : f (x, n) with
    | some v => rw [e] at hn; cases hn
    | none =>
      rw [e] at hn
      match i, h with
      | 0, h =>
        have := Option.some.inj h
        subst this
        exact e
      | i + 1, h =>
        have := findSome_zipIdx f l (n + 1) hn i a h
        rw [show n + (i + 1) = n + 1 + i by omega]
        exact this
theorem findSome_first {α β : Type} (f : α × Nat → Option β) : ∀ (l : List α) (n i : Nat) (a : α) (v : β), l[i]? = some a → f (a, n + i) = some v →
    (∀ j c, j < i → l[j]? = some c → f (c, n + j) = none) → (l.zipIdx n).findSome? f = some v
  | [], _, i, a, _, h, _, _ => by simp at h
  | x :: l, n, 0, a, v, h, hv, _ => by
    have := Option.some.inj h
    subst this
    rw [List.zipIdx_cons, List.findSome?_cons]
    rw [show f (x, n) = some v from hv]
  | x :: l, n, i + 1, a, v, h, hv, hn => by
    rw [List.zipIdx_cons, List.findSome?_cons]
    rw [show f (x, n) = none from hn 0 x (by omega) rfl]
    refine findSome_first f l (n + 1) i a v h (by rw [show n + 1 + i = n + (i + 1) by omega]; exact hv) (fun j c hj hc => ?_)
    rw [show n + 1 + j = n + (j + 1) by omega]
    exact hn (j + 1) c (by omega) hc
theorem findSome_none {α β : Type} (f : α × Nat → Option β) : ∀ (l : List α) (n : Nat),
    (∀ i a, l[i]? = some a → f (a, n + i) = none) → (l.zipIdx n).findSome? f = none
  | [], _, _ => rfl
  | x :: l, n, h => by
    rw [List.zipIdx_cons, List.findSome?_cons, show f (x, n) = none from h 0 x rfl]
    refine findSome_none f l (n + 1) fun i a ha => ?_
    rw [show n + 1 + i = n + (i + 1) by omega]
    exact h (i + 1) a ha
def wf (b : Bill) (x : Play × Nat) : Option (Nat × Nat) := if times b (x.2 + 1) < x.1.least then some (2, x.2 + 1) else if x.1.most < times b (x.2 + 1) then some (3, x.2 + 1) else none
theorem wrong_eq (w : Week) (b : Bill) : w.wrong b = match (List.range b.length).find? (runAt w b) with
  | some i => some (1, i)
  | none => w.plays.zipIdx.findSome? (wf b) := rfl
theorem find_none {b : Bill} {w : Week} (h : ∀ i, i < b.length → runAt w b i = false) : (List.range b.length).find? (runAt w b) = none := by
  rw [List.find?_eq_none]
  intro i hi
  rw [h i (List.mem_range.mp hi)]
  exact Bool.false_ne_true
theorem find_range_first {p : Nat → Bool} : ∀ {n i : Nat}, i < n → p i = true → (∀ j, j < i → p j = false) → (List.range n).find? p = some i
  | 0, i, h, _, _ => by omega
  | n + 1, i, h, hp, hn => by
    rw [List.range_succ, List.find?_append]
    by_cases e : i < n
    · rw [find_range_first e hp hn]
      rfl
    · have e2 : i = n := by omega
      subst e2
      have : (List.range i).find? p = none := by
        rw [List.find?_eq_none]
        intro j hj
        rw [hn j (List.mem_range.mp hj)]
        exact Bool.false_ne_true
      rw [this]
      simp [hp]
theorem wrong_runs {w : Week} {b : Bill} {i : Nat} (hi : i < b.length) (h : runAt w b i = true) (hn : ∀ j, j < i → runAt w b j = false) : wrongL w b = [1, i] := by
  unfold wrongL
  rw [wrong_eq, find_range_first hi h hn]
theorem wrong_often {w : Week} {b : Bill} {k : Nat} {p : Play} {v : Nat × Nat} (h : ∀ i, i < b.length → runAt w b i = false) (hp : w.plays[k]? = some p) (hv : wf b (p, k) = some v)
    (hn : ∀ j q, j < k → w.plays[j]? = some q → wf b (q, j) = none) : wrongL w b = [v.1, v.2] := by
  unfold wrongL
  rw [wrong_eq, find_none h]
  dsimp only
  rw [findSome_first (wf b) w.plays 0 k p v hp (by rw [Nat.zero_add]; exact hv) (fun j c hj hc => by rw [Nat.zero_add]; exact hn j c hj hc)]
theorem wrong_none {w : Week} {b : Bill} (h : ∀ i, i < b.length → runAt w b i = false)
    (hn : ∀ j q, w.plays[j]? = some q → wf b (q, j) = none) : wrongL w b = [] := by
  unfold wrongL
  rw [wrong_eq, find_none h]
  dsimp only
  rw [findSome_none (wf b) w.plays 0 (fun j c hc => by rw [Nat.zero_add]; exact hn j c hc)]
theorem wrongL_nil {w : Week} {b : Bill} : (wrongL w b = []) ↔ (w.wrong b).isNone = true := by
  unfold wrongL
  cases w.wrong b with
  | none => simp
  | some x => simp

/-! all bills, night by night -/
theorem bills_mem (k : Nat) : ∀ (n : Nat) (b : Bill), b ∈ bills k n → b.length = n ∧ ∀ x, x ∈ b → x ≤ k
  | 0, b, h => by
    have : b = [] := by simpa [bills] using h
    subst this
    simp
  | n + 1, b, h => by
    have h2 : b ∈ (List.range (k + 1)).flatMap fun x => (bills k n).map fun r => x :: r := h
    rw [List.mem_flatMap] at h2
    obtain ⟨x, hx, hb⟩ := h2
    rw [List.mem_map] at hb
    obtain ⟨r, hr, rfl⟩ := hb
    obtain ⟨e, l⟩ := bills_mem k n r hr
    refine ⟨by rw [List.length_cons, e], fun y hy => ?_⟩
    rcases List.mem_cons.mp hy with rfl | hy
    · exact Nat.lt_succ_iff.mp (List.mem_range.mp hx)
    · exact l y hy
theorem bills_snoc (k : Nat) : ∀ n : Nat, bills k (n + 1) = (bills k n).flatMap fun b => (List.range (k + 1)).map fun x => b ++ [x]
  | 0 => by
    show ((List.range (k + 1)).flatMap fun x => ([[]] : List Bill).map fun r => x :: r) = (([[]] : List Bill).flatMap fun b => (List.range (k + 1)).map fun x => b ++ [x])
    rw [List.flatMap_singleton]
    induction (List.range (k + 1)) with
    | nil => rfl
    | cons a l ih =>
      rw [List.flatMap_cons, ih]
      rfl
  | n + 1 => by
    show ((List.range (k + 1)).flatMap fun x => (bills k (n + 1)).map fun r => x :: r) = ((List.range (k + 1)).flatMap fun x => (bills k n).map fun r => x :: r).flatMap fun b => (List.range (k + 1)).map fun x => b ++ [x]
    rw [List.flatMap_assoc, bills_snoc k n]
    congr 1
    funext x
    rw [List.map_flatMap, List.flatMap_map]
    congr 1
    funext b
    rw [List.map_map]
    rfl
def noRun (w : Week) (b : Bill) : Bool := (List.range b.length).all fun i => !runAt w b i
theorem runAt_append {w : Week} {b c : Bill} {i : Nat} (h : i < b.length) : runAt w (b ++ c) i = runAt w b i := by
  unfold runAt
  rw [getD_append_l h, getD_append_l (show i - 1 < b.length by omega)]
theorem noRun_snoc (w : Week) (b : Bill) (x : Nat) : noRun w (b ++ [x]) = (noRun w b && !runAt w (b ++ [x]) b.length) := by
  unfold noRun
  rw [List.length_append, List.length_singleton, List.range_succ, List.all_append]
  congr 1
  · rw [Bool.eq_iff_iff, List.all_eq_true, List.all_eq_true]
    constructor
    · intro h i hi
      rw [← runAt_append (c := [x]) (List.mem_range.mp hi)]
      exact h i hi
    · intro h i hi
      rw [runAt_append (c := [x]) (List.mem_range.mp hi)]
      exact h i hi
  · simp
def longer1 (w : Week) (b : Bill) : List Bill := ((List.range (w.plays.length + 1)).map fun x => b ++ [x]).filter fun l => !runAt w l b.length
def longer (w : Week) (bs : List Bill) : List Bill := bs.flatMap (longer1 w)
def pruned (w : Week) : Nat → List Bill
  | 0 => [[]]
  | n + 1 => longer w (pruned w n)
theorem filter_flat {α β : Type} (p : α → Bool) (f : α → List β) : ∀ l : List α, (l.filter p).flatMap f = l.flatMap fun a => if p a then f a else []
  | [] => rfl
  | a :: l => by
    rw [List.filter_cons, List.flatMap_cons]
    by_cases h : p a = true
    · rw [if_pos h, List.flatMap_cons, filter_flat p f l, if_pos h]
    · rw [if_neg h, filter_flat p f l, if_neg h, List.nil_append]
theorem pruned_eq (w : Week) : ∀ n, pruned w n = (bills w.plays.length n).filter (noRun w)
  | 0 => rfl
  | n + 1 => by
    show (pruned w n).flatMap (longer1 w) = _
    rw [pruned_eq w n, filter_flat, bills_snoc, List.filter_flatMap]
    congr 1
    funext b
    by_cases h : noRun w b = true
    · rw [if_pos h]
      unfold longer1
      refine List.filter_congr fun l hl => ?_
      obtain ⟨x, _, rfl⟩ := List.mem_map.mp hl
      rw [noRun_snoc, h, Bool.true_and]
    · rw [if_neg h]
      symm
      rw [List.filter_eq_nil_iff]
      intro l hl
      obtain ⟨x, _, rfl⟩ := List.mem_map.mp hl
      rw [noRun_snoc, Bool.not_eq_true _ |>.mp h, Bool.false_and]
      exact Bool.false_ne_true
theorem none_noRun {w : Week} {b : Bill} (h : (w.wrong b).isNone = true) : noRun w b = true := by
  unfold noRun
  rw [List.all_eq_true]
  intro i hi
  rw [wrong_eq] at h
  cases e : (List.range b.length).find? (runAt w b) with
  | some j => rw [e] at h; cases h
  | none =>
    rw [List.find?_eq_none] at e
    have := e i hi
    simp [Bool.not_eq_true _ |>.mp this]
def rightL (w : Week) : List Bill := (pruned w w.nights.length).filter fun b => wrongL w b == []
theorem all_eq (w : Week) : w.all = rightL w := by
  unfold Week.all rightL
  rw [pruned_eq, List.filter_filter]
  refine List.filter_congr fun b hb => ?_
  obtain ⟨hl, hk⟩ := bills_mem _ _ b hb
  have e : w.right b = (w.wrong b).isNone := by
    unfold Week.right
    rw [beq_iff_eq.mpr hl, Bool.true_and]
    have : (b.all fun k => decide (k ≤ w.plays.length)) = true := by
      rw [List.all_eq_true]
      exact fun x hx => decide_eq_true (hk x hx)
    rw [this, Bool.true_and]
  rw [e]
  cases h : (w.wrong b).isNone with
  | true =>
    rw [none_noRun h, wrongL_nil.mpr h]
    rfl
  | false =>
    have : wrongL w b ≠ [] := fun q => by rw [wrongL_nil.mp q] at h; cases h
    have : (wrongL w b == []) = false := by
      cases hw : wrongL w b with
      | nil => exact absurd hw this
      | cons a l => rfl
    rw [this, Bool.false_and]
theorem longer1_fit {w : Week} {b l : Bill} (h : l ∈ longer1 w b) : ∃ x, l = b ++ [x] ∧ x ≤ w.plays.length := by
  unfold longer1 at h
  obtain ⟨h1, _⟩ := List.mem_filter.mp h
  obtain ⟨x, hx, rfl⟩ := List.mem_map.mp h1
  exact ⟨x, rfl, Nat.lt_succ_iff.mp (List.mem_range.mp hx)⟩
theorem pruned_mem {w : Week} {n : Nat} {b : Bill} (h : b ∈ pruned w n) : b.length = n ∧ ∀ x, x ∈ b → x ≤ w.plays.length := by
  rw [pruned_eq] at h
  exact bills_mem _ _ b (List.mem_filter.mp h).1
theorem longer1_length (w : Week) (b : Bill) : (longer1 w b).length ≤ w.plays.length + 1 := by
  refine Nat.le_trans (List.length_filter_le _ _) ?_
  simp
theorem longer_length {w : Week} (h : w.plays.length ≤ 4) : ∀ bs : List Bill, (longer w bs).length ≤ 5 * bs.length
  | [] => Nat.le_refl _
  | b :: bs => by
    have ih := longer_length h bs
    have h1 := longer1_length w b
    show (longer1 w b ++ longer w bs).length ≤ 5 * (bs.length + 1)
    rw [List.length_append]
    omega
theorem pruned_length {w : Week} (h : w.plays.length ≤ 4) : ∀ n, (pruned w n).length ≤ 5 ^ n
  | 0 => Nat.le_refl _
  | n + 1 => by
    have h1 := longer_length h (pruned w n)
    have h2 := pruned_length h n
    show (longer w (pruned w n)).length ≤ 5 ^ n * 5
    omega
theorem pruned_small {w : Week} (h : w.plays.length ≤ 4) {n : Nat} (hn : n ≤ 6) : (pruned w n).length ≤ 15625 := by
  have h1 := pruned_length h n
  have h2 : 5 ^ n ≤ 5 ^ 6 := Nat.pow_le_pow_right (by omega) hn
  have h3 : (5 : Nat) ^ 6 = 15625 := by decide
  omega
theorem rightL_mem {w : Week} {b : Bill} (h : b ∈ rightL w) : b.length = w.nights.length ∧ ∀ x, x ∈ b → x ≤ w.plays.length :=
  pruned_mem (List.mem_filter.mp h).1
theorem rightL_small {w : Week} (h : Ok w) : (rightL w).length ≤ 15625 :=
  Nat.le_trans (List.length_filter_le _ _) (pruned_small h.pl h.nl)

/-! the best -/
def bestT (w : Week) (s : Int × List Bill) (b : Bill) : Int × List Bill :=
  let s1 : Int × List Bill := if s.2 = [] ∨ s.1 < w.left b then (w.left b, []) else s
  if w.left b = s1.1 then (s1.1, s1.2 ++ [b]) else s1
def bestL (w : Week) (bs : List Bill) : Int × List Bill := bs.foldl (bestT w) (0, [])
def view (s : Int × List Bill) : Option Best := match s.2 with
  | [] => none
  | b :: r => some ⟨s.1, r.length + 1, b⟩
theorem view_turn (w : Week) (s : Int × List Bill) (b : Bill) : better (view s) (some ⟨w.left b, 1, b⟩) = view (bestT w s b) := by
  obtain ⟨v, l⟩ := s
  match l with
  | [] =>
    unfold bestT
    dsimp only
    rw [if_pos (Or.inl rfl)]
    dsimp only
    rw [if_pos rfl]
    rfl
  | c :: r =>
    unfold bestT view
    dsimp only
    by_cases h : v < w.left b
    · rw [if_pos (Or.inr h)]
      dsimp only
      rw [if_pos rfl]
      unfold better
      dsimp only
      rw [if_pos h]
      rfl
    · rw [if_neg (show ¬ ((c :: r : List Bill) = [] ∨ v < w.left b) from fun q => q.elim (fun e => List.cons_ne_nil _ _ e) h)]
      unfold better
      dsimp only
      rw [if_neg h]
      by_cases h2 : w.left b = v
      · rw [if_pos h2, if_neg (by omega)]
        simp
      · rw [if_neg h2, if_pos (by omega)]
theorem view_fold (w : Week) : ∀ (bs : List Bill) (s : Int × List Bill), (bs.map fun b => some (⟨w.left b, 1, b⟩ : Best)).foldl better (view s) = view (bs.foldl (bestT w) s)
  | [], _ => rfl
  | b :: bs, s => by
    rw [List.map_cons, List.foldl_cons, List.foldl_cons, view_turn, view_fold w bs]
theorem best_eq (w : Week) : w.best = view (bestL w (rightL w)) := by
  unfold Week.best
  rw [all_eq]
  exact view_fold w (rightL w) (0, [])
theorem bestT_sub {w : Week} {s : Int × List Bill} {b c : Bill} (h : c ∈ (bestT w s b).2) : c ∈ s.2 ∨ c = b := by
  unfold bestT at h
  dsimp only at h
  by_cases h1 : s.2 = [] ∨ s.1 < w.left b
  · rw [if_pos h1] at h
    dsimp only at h
    rw [if_pos rfl] at h
    simp at h
    exact Or.inr h
  · rw [if_neg h1] at h
    by_cases h2 : w.left b = s.1
    · rw [if_pos h2] at h
      dsimp only at h
      rcases List.mem_append.mp h with h | h
      · exact Or.inl h
      · exact Or.inr (List.mem_singleton.mp h)
    · rw [if_neg h2] at h
      exact Or.inl h
theorem bestT_length (w : Week) (s : Int × List Bill) (b : Bill) : (bestT w s b).2.length ≤ s.2.length + 1 := by
  unfold bestT
  dsimp only
  by_cases h1 : s.2 = [] ∨ s.1 < w.left b
  · rw [if_pos h1]
    dsimp only
    rw [if_pos rfl]
    simp
  · rw [if_neg h1]
    by_cases h2 : w.left b = s.1
    · rw [if_pos h2]
      simp
    · rw [if_neg h2]
      omega
end Wp

namespace Wp
open Uw05

/-- the call that a kind, its whole numbers and its list tell -/
inductive Is : Uw05.Call → Nat → List Nat → List Nat → Prop
  | begins (s : List Nat) (h : s.length ≤ 20) : Is (.begins s) 0 [] s
  | play (s t b m n : Nat) (l : List Nat) (hb : b ≤ 1) (h : l.length ≤ 20) : Is (.play ⟨l, s, t, b == 1, m, n⟩) 1 [s, t, b, m, n] l
  | best : Is .best 2 [] []
  | check (s : List Nat) (h : s.length ≤ 20) : Is (.check s) 3 [] s
  | night (i n : Nat) : Is (.night i n) 4 [i, n] []
  | drop (k : Nat) : Is (.drop k) 5 [k] []

def wholesN : List Nat := [0, 5, 0, 0, 2, 1]
def listsN : List Nat := [1, 1, 0, 1, 0, 0]

/-- how a call lies in the numbers: from at to nx -/
structure Lies (l : List Int) (at_ nx kind : Nat) (wh so : List Nat) : Prop where
  here : l[at_]? = some (kind : Int)
  low : kind < 6
  wlen : wh.length = wholesN.getD kind 0
  whs : (l.drop (at_ + 1)).take wh.length = ins wh
  one : listsN.getD kind 0 = 1 → l[at_ + 1 + wh.length]? = some (so.length : Int) ∧ (l.drop (at_ + 1 + wh.length + 1)).take so.length = ins so ∧ nx = at_ + 1 + wh.length + 1 + so.length
  no : listsN.getD kind 0 ≠ 1 → so = [] ∧ nx = at_ + 1 + wh.length
  lt : at_ < nx
  le : nx ≤ l.length

theorem nat_of {z : Int} (h : Uw05Neutral.nat z = true) : 0 ≤ z := by
  unfold Uw05Neutral.nat at h
  rw [Bool.and_eq_true] at h
  exact of_decide_eq_true h.1
theorem nats_of : ∀ {l : List Int}, l.all Uw05Neutral.nat = true → ins (l.map Int.toNat) = l
  | [], _ => rfl
  | z :: l, h => by
    rw [List.all_cons, Bool.and_eq_true] at h
    rw [List.map_cons, ins_cons, nats_of h.2, Int.toNat_of_nonneg (nat_of h.1)]
theorem callOf_some {c : List Int} (h : Uw05Neutral.asked1 c = true) : ∃ x, Uw05Neutral.callOf c = some x ∧ Uw05Neutral.callIn (c.map Int.toNat) = some x ∧ c.all Uw05Neutral.nat = true := by
  unfold Uw05Neutral.asked1 at h
  obtain ⟨x, hx⟩ := Option.isSome_iff_exists.mp h
  refine ⟨x, hx, ?_⟩
  unfold Uw05Neutral.callOf at hx
  by_cases e : c.all Uw05Neutral.nat = false
  · rw [if_pos e] at hx
    cases hx
  · rw [if_neg e] at hx
    exact ⟨hx, by simpa using e⟩

theorem row_some {r : List Int} {x s : List Int} (h : PyFlat.row r = some (x, s)) : ∃ n r', r = n :: r' ∧ 0 ≤ n ∧ n.toNat ≤ r'.length ∧ x = r'.take n.toNat ∧ s = r'.drop n.toNat := by
  match r, h with
  | [], h => cases h
  | n :: r', h =>
    unfold PyFlat.row at h
    dsimp only at h
    by_cases c : 0 ≤ n ∧ n.toNat ≤ r'.length
    · rw [if_pos c] at h
      cases h
      exact ⟨n, r', rfl, c.1, c.2, rfl, rfl⟩
    · rw [if_neg c] at h
      cases h
theorem rows1 {r : List Int} {xs : List (List Int)} {t : List Int} (h : PyFlat.rows 1 r = some (xs, t)) : ∃ n r', r = n :: r' ∧ 0 ≤ n ∧ n.toNat ≤ r'.length ∧ xs = [r'.take n.toNat] ∧ t = r'.drop n.toNat := by
  unfold PyFlat.rows at h
  cases e : PyFlat.row r with
  | none => rw [e] at h; cases h
  | some p =>
    obtain ⟨x, s⟩ := p
    rw [e] at h
    obtain ⟨n, r', h1, h2, h3, h4, h5⟩ := row_some e
    have : (some ([x], s) : Option (List (List Int) × List Int)) = some (xs, t) := h
    cases this
    exact ⟨n, r', h1, h2, h3, by rw [h4], h5⟩

theorem shape_some {p : Int} {n k : Nat} (h : PyUw05.shape p = some (n, k)) : ∃ kind : Nat, p = kind ∧ kind < 6 ∧ n = wholesN.getD kind 0 ∧ k = listsN.getD kind 0 := by
  unfold PyUw05.shape at h
  by_cases h0 : p = 0
  · rw [if_pos h0] at h; cases h; exact ⟨0, h0, by omega, rfl, rfl⟩
  rw [if_neg h0] at h
  by_cases h1 : p = 1
  · rw [if_pos h1] at h; cases h; exact ⟨1, h1, by omega, rfl, rfl⟩
  rw [if_neg h1] at h
  by_cases h2 : p = 2
  · rw [if_pos h2] at h; cases h; exact ⟨2, h2, by omega, rfl, rfl⟩
  rw [if_neg h2] at h
  by_cases h3 : p = 3
  · rw [if_pos h3] at h; cases h; exact ⟨3, h3, by omega, rfl, rfl⟩
  rw [if_neg h3] at h
  by_cases h4 : p = 4
  · rw [if_pos h4] at h; cases h; exact ⟨4, h4, by omega, rfl, rfl⟩
  rw [if_neg h4] at h
  by_cases h5 : p = 5
  · rw [if_pos h5] at h; cases h; exact ⟨5, h5, by omega, rfl, rfl⟩
  rw [if_neg h5] at h
  cases h

/-- a call by its parts: the list behind how many it has, where it has one -/
theorem call_some {p : Int} {r : List Int} {c : List (List Int)} {t : List Int} (h : PyFlat.call PyUw05.shape (p :: r) = some (c, t)) :
    ∃ kind : Nat, p = kind ∧ kind < 6 ∧ wholesN.getD kind 0 ≤ r.length ∧
      ((listsN.getD kind 0 = 1 ∧ ∃ n r', r.drop (wholesN.getD kind 0) = n :: r' ∧ 0 ≤ n ∧ n.toNat ≤ r'.length ∧ c = [p :: r.take (wholesN.getD kind 0), r'.take n.toNat] ∧ t = r'.drop n.toNat) ∨
       (listsN.getD kind 0 = 0 ∧ c = [p :: r.take (wholesN.getD kind 0)] ∧ t = r.drop (wholesN.getD kind 0))) := by
  unfold PyFlat.call at h
  dsimp only at h
  cases e : PyUw05.shape p with
  | none => rw [e] at h; cases h
  | some s =>
    obtain ⟨n, k⟩ := s
    rw [e] at h
    obtain ⟨kind, hp, hk, hn, hkk⟩ := shape_some e
    dsimp only at h
    by_cases hl : r.length < n
    · rw [if_pos hl] at h; cases h
    rw [if_neg hl] at h
    refine ⟨kind, hp, hk, by omega, ?_⟩
    rw [← hn]
    cases e2 : PyFlat.rows k (r.drop n) with
    | none => rw [e2] at h; cases h
    | some s =>
      obtain ⟨xs, u⟩ := s
      rw [e2] at h
      have h' : (some ((p :: r.take n) :: xs, u) : Option (List (List Int) × List Int)) = some (c, t) := h
      cases h'
      have hk01 : k = 0 ∨ k = 1 := by
        rw [hkk]
        match kind, hk with
        | 0, _ => exact Or.inr rfl
        | 1, _ => exact Or.inr rfl
        | 2, _ => exact Or.inl rfl
        | 3, _ => exact Or.inr rfl
        | 4, _ => exact Or.inl rfl
        | 5, _ => exact Or.inl rfl
      rcases hk01 with rfl | rfl
      · have e3 : (some ([], r.drop n) : Option (List (List Int) × List Int)) = some (xs, t) := e2
        cases e3
        exact Or.inr ⟨hkk.symm, rfl, rfl⟩
      · obtain ⟨m, r', h1, h2, h3, h4, h5⟩ := rows1 e2
        exact Or.inl ⟨hkk.symm, m, r', h1, h2, h3, by rw [h4], h5⟩
theorem len_take {r : List Int} {n : Nat} (h : n ≤ r.length) : (r.take n).length = n := by
  rw [List.length_take]
  omega
theorem take1 : ∀ {l : List Int}, l.length = 1 → ∃ a, l = [a]
  | [a], _ => ⟨a, rfl⟩
theorem take2 : ∀ {l : List Int}, l.length = 2 → ∃ a b, l = [a, b]
  | [a, b], _ => ⟨a, b, rfl⟩
theorem take5 : ∀ {l : List Int}, l.length = 5 → ∃ a b c d e, l = [a, b, c, d, e]
  | [a, b, c, d, e], _ => ⟨a, b, c, d, e, rfl⟩
theorem listIn_some {n : Nat} {l x : List Nat} (h : Uw05Neutral.listIn (n :: l) = some x) : x = l ∧ l.length ≤ 20 := by
  unfold Uw05Neutral.listIn at h
  dsimp only at h
  by_cases c : n ≤ 20 ∧ l.length = n
  · rw [if_pos c] at h
    cases h
    exact ⟨rfl, by omega⟩
  · rw [if_neg c] at h
    cases h
theorem map_listIn {n : Nat} {l : List Nat} {f : List Nat → Uw05.Call} {x : Uw05.Call} (h : (Uw05Neutral.listIn (n :: l)).map f = some x) : x = f l ∧ l.length ≤ 20 := by
  cases e : Uw05Neutral.listIn (n :: l) with
  | none => rw [e] at h; cases h
  | some y =>
    rw [e] at h
    obtain ⟨rfl, hl⟩ := listIn_some e
    exact ⟨(Option.some.inj h).symm, hl⟩
/-- the numbers of a call tell a call of the document -/
theorem is_of {kind : Nat} {ws : List Int} {so : List Int} (hk : kind < 6) (hw : ws.length = wholesN.getD kind 0) (h1 : listsN.getD kind 0 = 1)
    (ha : Uw05Neutral.asked1 ((PyUw05.whole [(kind : Int) :: ws, so]).headD []) = true) :
    ∃ x wh s, Uw05Neutral.callOf ((PyUw05.whole [(kind : Int) :: ws, so]).headD []) = some x ∧ Is x kind wh s ∧ ins wh = ws ∧ ins s = so := by
  obtain ⟨x, hx, hi, hall⟩ := callOf_some ha
  match kind, hk, hw, h1, hx, hi, hall with
  | 0, _, hw, _, hx, hi, hall =>
    have : ws = [] := List.length_eq_zero_iff.mp hw
    subst this
    have hi2 : (Uw05Neutral.listIn (((so.length : Int).toNat) :: so.map Int.toNat)).map Uw05.Call.begins = some x := hi
    obtain ⟨rfl, hl⟩ := map_listIn hi2
    have hall2 : ((0 : Int) :: (so.length : Int) :: so).all Uw05Neutral.nat = true := hall
    rw [List.all_cons, List.all_cons, Bool.and_eq_true, Bool.and_eq_true] at hall2
    exact ⟨_, [], so.map Int.toNat, hx, Is.begins _ hl, rfl, nats_of hall2.2.2⟩
  | 1, _, hw, _, hx, hi, hall =>
    obtain ⟨a, b, c, d, e, rfl⟩ := take5 hw
    have hi2 : (if c.toNat ≤ 1 then (Uw05Neutral.listIn (((so.length : Int).toNat) :: so.map Int.toNat)).map fun r => Uw05.Call.play ⟨r, a.toNat, b.toNat, c.toNat == 1, d.toNat, e.toNat⟩ else none) = some x := hi
    by_cases hc : c.toNat ≤ 1
    · rw [if_pos hc] at hi2
      obtain ⟨rfl, hl⟩ := map_listIn hi2
      have hall2 : ((1 : Int) :: a :: b :: c :: d :: e :: (so.length : Int) :: so).all Uw05Neutral.nat = true := hall
      simp only [List.all_cons, Bool.and_eq_true] at hall2
      obtain ⟨_, q1, q2, q3, q4, q5, _, q7⟩ := hall2
      refine ⟨_, [a.toNat, b.toNat, c.toNat, d.toNat, e.toNat], so.map Int.toNat, hx, Is.play _ _ _ _ _ _ hc hl, ?_, nats_of q7⟩
      simp only [ins_cons, ins_nil, Int.toNat_of_nonneg (nat_of q1), Int.toNat_of_nonneg (nat_of q2), Int.toNat_of_nonneg (nat_of q3), Int.toNat_of_nonneg (nat_of q4), Int.toNat_of_nonneg (nat_of q5)]
    · rw [if_neg hc] at hi2
      cases hi2
  | 3, _, hw, _, hx, hi, hall =>
    have : ws = [] := List.length_eq_zero_iff.mp hw
    subst this
    have hi2 : (Uw05Neutral.listIn (((so.length : Int).toNat) :: so.map Int.toNat)).map Uw05.Call.check = some x := hi
    obtain ⟨rfl, hl⟩ := map_listIn hi2
    have hall2 : ((3 : Int) :: (so.length : Int) :: so).all Uw05Neutral.nat = true := hall
    rw [List.all_cons, List.all_cons, Bool.and_eq_true, Bool.and_eq_true] at hall2
    exact ⟨_, [], so.map Int.toNat, hx, Is.check _ hl, rfl, nats_of hall2.2.2⟩
  | 2, _, _, h1, _, _, _ => exact absurd h1 (by decide)
  | 4, _, _, h1, _, _, _ => exact absurd h1 (by decide)
  | 5, _, _, h1, _, _, _ => exact absurd h1 (by decide)
theorem kind0 : ∀ {kind : Nat}, kind < 6 → listsN.getD kind 0 = 0 → kind = 2 ∨ kind = 4 ∨ kind = 5
  | 0, _, h => by cases h
  | 1, _, h => by cases h
  | 2, _, _ => Or.inl rfl
  | 3, _, h => by cases h
  | 4, _, _ => Or.inr (Or.inl rfl)
  | 5, _, _ => Or.inr (Or.inr rfl)
  | n + 6, h, _ => by omega
theorem is_of0 {kind : Nat} {ws : List Int} (hk : kind < 6) (hw : ws.length = wholesN.getD kind 0) (h1 : listsN.getD kind 0 = 0)
    (ha : Uw05Neutral.asked1 ((PyUw05.whole [(kind : Int) :: ws]).headD []) = true) :
    ∃ x wh, Uw05Neutral.callOf ((PyUw05.whole [(kind : Int) :: ws]).headD []) = some x ∧ Is x kind wh [] ∧ ins wh = ws := by
  obtain ⟨x, hx, hi, hall⟩ := callOf_some ha
  rcases kind0 hk h1 with rfl | rfl | rfl
  · have : ws = [] := List.length_eq_zero_iff.mp hw
    subst this
    have hi2 : some Uw05.Call.best = some x := hi
    cases hi2
    exact ⟨_, [], hx, Is.best, rfl⟩
  · obtain ⟨a, b, rfl⟩ := take2 hw
    have hi2 : some (Uw05.Call.night a.toNat b.toNat) = some x := hi
    cases hi2
    have hall2 : ((4 : Int) :: a :: b :: []).all Uw05Neutral.nat = true := hall
    simp only [List.all_cons, Bool.and_eq_true] at hall2
    refine ⟨_, [a.toNat, b.toNat], hx, Is.night _ _, ?_⟩
    simp only [ins_cons, ins_nil, Int.toNat_of_nonneg (nat_of hall2.2.1), Int.toNat_of_nonneg (nat_of hall2.2.2.1)]
  · obtain ⟨a, rfl⟩ := take1 hw
    have hi2 : some (Uw05.Call.drop a.toNat) = some x := hi
    cases hi2
    have hall2 : ((5 : Int) :: a :: []).all Uw05Neutral.nat = true := hall
    simp only [List.all_cons, Bool.and_eq_true] at hall2
    refine ⟨_, [a.toNat], hx, Is.drop _, ?_⟩
    simp only [ins_cons, ins_nil, Int.toNat_of_nonneg (nat_of hall2.2.1)]

def asks (cs : List (List (List Int))) : Prop := ∀ c, c ∈ cs → Uw05Neutral.asked1 ((PyUw05.whole c).headD []) = true
def due (w : Week) (cs : List (List (List Int))) : List Int := PyFlat.told (PyFlat.played (fun s c => Uw05Neutral.step s (c.headD [])) w (cs.map PyUw05.whole))
/-- what is still to be answered -/
def Rest (l : List Int) (at_ : Nat) (w : Week) (d : List Int) : Prop := ∃ f cs, PyFlat.calls PyUw05.shape f (l.drop at_) = some cs ∧ asks cs ∧ due w cs = d
def nums (w : Week) (c : Uw05.Call) : List Int := Uw05Neutral.out (Uw05.step w c).2
theorem due_cons {w : Week} {c : List (List Int)} {cs : List (List (List Int))} {x : Uw05.Call} (h : Uw05Neutral.callOf ((PyUw05.whole c).headD []) = some x) :
    due w (c :: cs) = ((nums w x).length : Int) :: (nums w x ++ due (Uw05.step w x).1 cs) := by
  have e : Uw05Neutral.step w ((PyUw05.whole c).headD []) = ((Uw05.step w x).1, nums w x) := by
    unfold Uw05Neutral.step
    rw [h]
    rfl
  show PyFlat.told ((Uw05Neutral.step w ((PyUw05.whole c).headD [])).2 :: PyFlat.played (fun s c => Uw05Neutral.step s (c.headD [])) (Uw05Neutral.step w ((PyUw05.whole c).headD [])).1 (cs.map PyUw05.whole)) = _
  rw [e]
  rfl
theorem drop_get {l : List Int} {at_ : Nat} {p : Int} {r : List Int} (h : l.drop at_ = p :: r) : l[at_]? = some p ∧ r = l.drop (at_ + 1) ∧ at_ < l.length := by
  have h1 : (l.drop at_)[0]? = some p := by rw [h]; rfl
  rw [List.getElem?_drop] at h1
  refine ⟨h1, ?_, (List.getElem?_eq_some_iff.mp h1).1⟩
  have h2 : (l.drop at_).drop 1 = r := by rw [h]; rfl
  rw [List.drop_drop] at h2
  exact h2.symm
theorem rest_turn {l : List Int} {at_ : Nat} {w : Week} {d : List Int} (h : Rest l at_ w d) (lt : at_ < l.length) :
    ∃ kind wh so nx x, Lies l at_ nx kind wh so ∧ Is x kind wh so ∧
      ∃ d', Rest l nx (Uw05.step w x).1 d' ∧ d = ((nums w x).length : Int) :: (nums w x ++ d') := by
  obtain ⟨f, cs, hc, ha, hd⟩ := h
  have hne : ∃ p r, l.drop at_ = p :: r := by
    cases e : l.drop at_ with
    | nil =>
      have := List.drop_eq_nil_iff.mp e
      omega
    | cons p r => exact ⟨p, r, rfl⟩
  obtain ⟨p, r, hpr⟩ := hne
  obtain ⟨hp, hr, _⟩ := drop_get hpr
  rw [hpr] at hc
  match f, hc with
  | 0, hc => cases hc
  | f + 1, hc =>
    unfold PyFlat.calls at hc
    cases e1 : PyFlat.call PyUw05.shape (p :: r) with
    | none => rw [e1] at hc; cases hc
    | some q =>
      obtain ⟨c, t⟩ := q
      rw [e1] at hc
      dsimp only at hc
      cases e2 : PyFlat.calls PyUw05.shape f t with
      | none => rw [e2] at hc; cases hc
      | some cs' =>
        rw [e2] at hc
        have hcs : c :: cs' = cs := Option.some.inj hc
        subst hcs
        have hac : Uw05Neutral.asked1 ((PyUw05.whole c).headD []) = true := ha c List.mem_cons_self
        have ha' : asks cs' := fun c' hc' => ha c' (List.mem_cons_of_mem _ hc')
        obtain ⟨kind, rfl, hk, hwl, hcase⟩ := call_some e1
        have hwlen := len_take hwl
        rcases hcase with ⟨h1, n, r', hd1, hn0, hnl, rfl, rfl⟩ | ⟨h0, rfl, rfl⟩
        · obtain ⟨x, wh, s, hx, his, ewh, es⟩ := is_of hk hwlen h1 hac
          have hw2 : wh.length = wholesN.getD kind 0 := by rw [← ins_length wh, ewh, hwlen]
          have hs2 : s.length = n.toNat := by rw [← ins_length s, es, len_take hnl]
          rw [hr, List.drop_drop] at hd1
          obtain ⟨g1, g2, g3⟩ := drop_get hd1
          have hl3 : r'.length = l.length - (at_ + 1 + wholesN.getD kind 0 + 1) := by rw [g2, List.length_drop]
          refine ⟨kind, wh, s, at_ + 1 + wh.length + 1 + s.length, x, ⟨hp, hk, hw2, ?_, fun _ => ⟨?_, ?_, rfl⟩, fun q => absurd h1 q, by omega, ?_⟩, his, due (Uw05.step w x).1 cs', ⟨f, cs', ?_, ha', rfl⟩, ?_⟩
          · rw [hw2, ewh, hr]
          · rw [hw2, hs2, g1, Int.toNat_of_nonneg hn0]
          · rw [hw2, hs2, es, g2]
          · rw [hw2, hs2]
            omega
          · rw [hw2, hs2, ← e2, g2, List.drop_drop]
          · rw [← hd]
            exact due_cons hx
        · obtain ⟨x, wh, hx, his, ewh⟩ := is_of0 hk hwlen h0 hac
          have hw2 : wh.length = wholesN.getD kind 0 := by rw [← ins_length wh, ewh, hwlen]
          have hrl : r.length = l.length - (at_ + 1) := by rw [hr, List.length_drop]
          refine ⟨kind, wh, [], at_ + 1 + wh.length, x, ⟨hp, hk, hw2, ?_, fun q => absurd (h0.symm.trans q) (by decide), fun _ => ⟨rfl, rfl⟩, by omega, ?_⟩, his, due (Uw05.step w x).1 cs', ⟨f, cs', ?_, ha', rfl⟩, ?_⟩
          · rw [hw2, ewh, hr]
          · rw [hw2]
            omega
          · rw [hw2, ← e2, hr, List.drop_drop]
          · rw [← hd]
            exact due_cons hx
theorem rest_end {l : List Int} {at_ : Nat} {w : Week} {d : List Int} (h : Rest l at_ w d) (le : l.length ≤ at_) : d = [] := by
  obtain ⟨f, cs, hc, _, hd⟩ := h
  rw [List.drop_eq_nil_iff.mpr le] at hc
  have : cs = [] := by
    cases f with
    | zero => exact (Option.some.inj hc).symm
    | succ f => exact (Option.some.inj hc).symm
  subst this
  exact hd.symm
theorem rest_start {l : List Int} (h : PyUw05.answers_asked l = true) : Rest l 0 Uw05.init (PyUw05.answers l) ∧ (PyUw05.answers l).length ≤ 10000000 := by
  unfold PyUw05.answers_asked at h
  cases e : PyFlat.calls PyUw05.shape l.length l with
  | none => rw [e] at h; cases h
  | some raw =>
    rw [e] at h
    dsimp only at h
    rw [Bool.and_eq_true, Bool.and_eq_true] at h
    obtain ⟨⟨_, h3⟩, h4⟩ := h
    refine ⟨⟨l.length, raw, e, ?_, ?_⟩, ?_⟩
    · intro c hc
      unfold Uw05Neutral.asked at h3
      rw [Bool.and_eq_true] at h3
      have := List.all_eq_true.mp h3.1 ((PyUw05.whole c).headD []) (List.mem_map_of_mem (List.mem_map_of_mem hc))
      exact this
    · unfold PyUw05.answers PyUw05.calls
      rw [e]
      rfl
    · exact of_decide_eq_true h4
end Wp

namespace Wp
open PySem PySem.Spec PyProof.Rows L2
open PySem.W (Codec)

/-! ### words that the layer lacks -/
/-- a def of the text by its name: its promise, at most so deep -/
structure Has (P : Program) (w : World) (K : PySem.W.Frag) (mg : Str → Option Value) (base : Heap) (x : Str) (k : Nat) (ps : List Str) (sp : Sp) : Prop where
  ex : ∃ f fd, mg x = some (.ref f) ∧ FnOk P w K mg base CX0 k f fd ps sp ∧ PySem.W.keepIn K (.ref f) = true ∧ Binds K fd ps []
/-- a call of such a def -/
theorem pe_def {X : Cx} {x : Str} {k : Nat} {ps : List Str} {sp : Sp} {p pos : Pos} {e : Expr} {es : List Expr} {t : TA} (D : Has X.prog X.w X.K X.mg X.base x k ps sp) (hr : Room k X.A) (hg : Gl X x) (ha : PA X (e :: es) t)
    (hdb : (x == ("__debug__" : Str)) = false := by decide) (he : starEach (e :: es) X.env = (false, eval e X.env) :: starEach es X.env := by rfl) (hpl : (backTo pos (starEach es X.env)).any (·.1) = false := by rfl) :
    PE X (.Call (.Name x p) (e :: es) [] pos) (tCall sp [] E0 t) := by
  obtain ⟨f, fd, hm, F, hk, hb⟩ := D.ex
  exact pe_call F hr hg hm hk hb .nil pass0 ha hdb he hpl
/-- an own class that is made, by its name -/
structure Makes (P : Program) (w : World) (K : PySem.W.Frag) (mg : Str → Option Value) (base : Heap) (x : Str) (C : Addr) (k : Nat) (ps : List Str) (sp : Sp) : Prop where
  ex : ∃ f fd, mg x = some (.ref C) ∧ Mk K C f ∧ FnOk P w K mg base CX0 k f fd ps sp ∧ Binds K fd ps []
/-- a module's whole number -/
def GInt (mg : Str → Option Value) (x : Str) (i : Int) : Prop := ∃ t, mg x = some (.int i t)
theorem pe_gint {X : Cx} {x : Str} {i : Int} {pos : Pos} (hm : GInt X.mg x i) (hg : Gl X x) (hd : (x == ("__debug__" : Str)) = false := by decide) : PE X (.Name x pos) (tC (.int i)) := by
  obtain ⟨t, h⟩ := hm
  exact pe_glob hg h ⟨t, rfl⟩ hd
/-- a module's tuple -/
def GTup (K : PySem.W.Frag) (mg : Str → Option Value) (x : Str) (xs : List V) : Prop := ∃ a, mg x = some (.ref a) ∧ ∀ H, SqT K H a xs
def tGT (K : PySem.W.Frag) (xs : List V) : TE := fun _ H Q => ∀ a, SqT K H a xs → Q (.ref a) H
theorem pe_gtup {X : Cx} {x : Str} {xs : List V} {pos : Pos} (hm : GTup X.K X.mg x xs) (hg : Gl X x) (hd : (x == ("__debug__" : Str)) = false := by decide) : PE X (.Name x pos) (tGT X.K xs) := by
  obtain ⟨a, h, hs⟩ := hm
  refine ⟨fun pins s σ H Q I hq => ?_⟩
  exact (pe_glob (v := .ref a) (pos := pos) hg h rfl hd).run pins s σ H Q I (hq a (hs H))
/-- o.f as a target -/
def gFld (K : PySem.W.Frag) (ta : TE) (f : Str) : TG := fun v σ H Q => ta σ H fun x H2 => ∃ a C dx fs, x = .ref a ∧ H2 a = some (.ins C dx fs) ∧ Cls K C ∧ NoAttr K C f ∧ fs.length < 1000 ∧ Q σ (upd H2 a (.ins C dx (putF f v fs)))
theorem pg_fld {X : Cx} {o : Expr} {ta : TE} {f : Str} {pos : Pos} (ha : PE X o ta)
    (ht : ∀ v, assign (.Attribute o f pos) X.env v = (do
      let ov ← holding [v] (eval o X.env)
      standAt pos.atName
      holding [v, ov] (setAttr ov f v)
      release [v, ov] []) := by intro _; rfl) : PG X (.Attribute o f pos) (gFld X.K ta f) := by
  refine ⟨fun pins s σ H v u Q I r h => ?_⟩
  rw [ht]
  refine wpAny_bind (wpAny_holding (thn (ha.run pins s σ H _ I h) fun ov s2 ⟨x, H2, I2, rx, a, C, dx, fs, ex, ea, c, n, l, q2⟩ => ?_))
  subst ex
  obtain rfl : ov = Value.ref a := rx
  refine wpAny_bind (wpAny_standAt (wpAny_bind (wpAny_holding (setattr_ok I2 ea c n l r fun s3 I3 => ?_))))
  exact wpAny_release ⟨σ, _, I3, q2⟩

/-! ### the text by places -/
def top (i : Nat) : Stmt := PySem.Challenge.pw_weekplays_s01_answers.main.body.getD i (.Pass ⟨0, 0, 0, 0⟩)

/-! ### the data -/
/-- whole numbers as values -/
abbrev nv (l : List Nat) : List V := (ins l).map V.int
theorem nv_length (l : List Nat) : (nv l).length = l.length := by rw [List.length_map, ins_length]
theorem nv_get (l : List Nat) (i : Nat) : (nv l)[i]? = l[i]?.map fun (n : Nat) => V.int (n : Int) := by
  rw [List.getElem?_map, ins_get, Option.map_map]
  rfl
theorem nv_at {l : List Nat} {i n : Nat} (h : l[i]? = some n) : (nv l)[i]? = some (.int (n : Int)) := by
  rw [nv_get, h]
  rfl
theorem nv_atD {l : List Nat} {i : Nat} (h : i < l.length) : (nv l)[i]? = some (.int ((l.getD i 0 : Nat) : Int)) := by
  rw [nv_get, List.getD_eq_getElem?_getD, List.getElem?_eq_getElem h]
  rfl
theorem nv_append (a b : List Nat) : nv (a ++ b) = nv a ++ nv b := by
  unfold nv
  rw [ins_append, List.map_append]
def playF (p : Uw05.Play) (ab : Addr) : List (Str × V) := [("set_up", .int (p.set : Int)), ("strike", .int (p.strike : Int)), ("may_run", .int (if p.runs = true then 1 else 0)), ("least", .int (p.least : Int)), ("most", .int (p.most : Int)), ("brings", .ref ab)]
def weekF (an ap : Addr) : List (Str × V) := [("nights", .ref an), ("plays", .ref ap)]
def deskF (wk : Addr) : List (Str × V) := [("week", .ref wk)]
theorem lk_here {k : Str} {v : V} {r : List (Str × V)} : List.lookup k ((k, v) :: r) = some v := by
  have e : (k == k) = true := beq_self_eq_true k
  simp only [List.lookup, e]
theorem lk_past {k g : Str} {v : V} {r : List (Str × V)} (h : (k == g) = false) : List.lookup k ((g, v) :: r) = List.lookup k r := by
  simp only [List.lookup, h]
theorem put_here {f : Str} {v x : V} {r : List (Str × V)} : putF f v ((f, x) :: r) = (f, v) :: r := if_pos rfl
theorem put_past {f g : Str} {v x : V} {r : List (Str × V)} (h : ¬ g = f) : putF f v ((g, x) :: r) = (g, x) :: putF f v r := if_neg h
theorem playF_set (p : Uw05.Play) (ab : Addr) : (playF p ab).lookup ("set_up" : Str) = some (.int (p.set : Int)) := lk_here
theorem playF_strike (p : Uw05.Play) (ab : Addr) : (playF p ab).lookup ("strike" : Str) = some (.int (p.strike : Int)) := (lk_past (by decide +kernel)).trans lk_here
theorem playF_runs (p : Uw05.Play) (ab : Addr) : (playF p ab).lookup ("may_run" : Str) = some (.int (if p.runs = true then 1 else 0)) := (lk_past (by decide +kernel)).trans ((lk_past (by decide +kernel)).trans lk_here)
theorem playF_least (p : Uw05.Play) (ab : Addr) : (playF p ab).lookup ("least" : Str) = some (.int (p.least : Int)) := (lk_past (by decide +kernel)).trans ((lk_past (by decide +kernel)).trans ((lk_past (by decide +kernel)).trans lk_here))
theorem playF_most (p : Uw05.Play) (ab : Addr) : (playF p ab).lookup ("most" : Str) = some (.int (p.most : Int)) := (lk_past (by decide +kernel)).trans ((lk_past (by decide +kernel)).trans ((lk_past (by decide +kernel)).trans ((lk_past (by decide +kernel)).trans lk_here)))
theorem playF_brings (p : Uw05.Play) (ab : Addr) : (playF p ab).lookup ("brings" : Str) = some (.ref ab) := (lk_past (by decide +kernel)).trans ((lk_past (by decide +kernel)).trans ((lk_past (by decide +kernel)).trans ((lk_past (by decide +kernel)).trans ((lk_past (by decide +kernel)).trans lk_here))))
theorem weekF_nights (an ap : Addr) : (weekF an ap).lookup ("nights" : Str) = some (.ref an) := lk_here
theorem weekF_plays (an ap : Addr) : (weekF an ap).lookup ("plays" : Str) = some (.ref ap) := (lk_past (by decide +kernel)).trans lk_here
theorem deskF_week (wk : Addr) : (deskF wk).lookup ("week" : Str) = some (.ref wk) := lk_here

/-- a play stands at a -/
def PlayAt (CP : Addr) (H : Hp) (a ab : Addr) (p : Uw05.Play) : Prop := (∃ dx, H a = some (.ins CP dx (playF p ab))) ∧ H ab = some (.lst (nv p.brings))
/-- a week stands at a, its nights at an, its plays at ap: as; what a later store may touch is Own -/
structure WeekAt (CW CP : Addr) (Own : Addr → Prop) (H : Hp) (a : Addr) (w : Uw05.Week) (an ap : Addr) (as : List Addr) : Prop where
  ins : ∃ dx, H a = some (.ins CW dx (weekF an ap))
  nts : H an = some (.lst (nv w.nights))
  pls : H ap = some (.lst (as.map V.ref))
  len : as.length = w.plays.length
  at_ : ∀ (j : Nat) (c : Addr) (p : Uw05.Play), as[j]? = some c → w.plays[j]? = some p → ∃ ab, PlayAt CP H c ab p ∧ ab ≠ an ∧ ab ≠ ap ∧ Own ab
  dif : an ≠ ap
  oa : Own a
  on : Own an
  op : Own ap
  ok : Ok w
theorem PlayAt.same {CP : Addr} {H H' : Hp} {a ab : Addr} {p : Uw05.Play} (h : PlayAt CP H a ab p) (s : Same H H') : PlayAt CP H' a ab p := by
  obtain ⟨⟨dx, h1⟩, h2⟩ := h
  exact ⟨⟨dx, s _ _ h1⟩, s _ _ h2⟩
theorem WeekAt.same {CW CP : Addr} {Own : Addr → Prop} {H H' : Hp} {a : Addr} {w : Uw05.Week} {an ap : Addr} {as : List Addr} (h : WeekAt CW CP Own H a w an ap as) (s : Same H H') : WeekAt CW CP Own H' a w an ap as := by
  obtain ⟨⟨dx, h1⟩, h2, h3, h4, h5, h6, h7, h8, h9, h10⟩ := h
  refine ⟨⟨dx, s _ _ h1⟩, s _ _ h2, s _ _ h3, h4, fun j c p hc hp => ?_, h6, h7, h8, h9, h10⟩
  obtain ⟨ab, hp1, hp2⟩ := h5 j c p hc hp
  exact ⟨ab, hp1.same s, hp2⟩
/-- a store elsewhere -/
theorem WeekAt.past {CW CP : Addr} {Own : Addr → Prop} {H H' : Hp} {a f : Addr} {w : Uw05.Week} {an ap : Addr} {as : List Addr} {xs : List V} (h : WeekAt CW CP Own H a w an ap as) (hf : H f = some (.lst xs)) (ho : ¬ Own f) (kp : ∀ z o, H z = some o → z ≠ f → H' z = some o) : WeekAt CW CP Own H' a w an ap as := by
  obtain ⟨⟨dx, h1⟩, h2, h3, h4, h5, h6, h7, h8, h9, h10⟩ := h
  have no : ∀ z, Own z → z ≠ f := fun z hz e => ho (by rw [← e]; exact hz)
  refine ⟨⟨dx, kp _ _ h1 (no _ h7)⟩, kp _ _ h2 (no _ h8), kp _ _ h3 (no _ h9), h4, fun j c p hc hp => ?_, h6, h7, h8, h9, h10⟩
  obtain ⟨ab, ⟨⟨d2, g1⟩, g2⟩, g3, g4, g5⟩ := h5 j c p hc hp
  exact ⟨ab, ⟨⟨d2, kp _ _ g1 (ne_of g1 hf (by intro z; cases z))⟩, kp _ _ g2 (no _ g5)⟩, g3, g4, g5⟩
/-- a list of bills -/
def BillsAt (H : Hp) (a : Addr) (bs : List Uw05.Bill) : Prop := ∃ as : List Addr, H a = some (.lst (as.map V.ref)) ∧ as.length = bs.length ∧ ∀ (j : Nat) (c : Addr) (b : Uw05.Bill), as[j]? = some c → bs[j]? = some b → H c = some (.lst (nv b)) ∧ c ≠ a
theorem same_new {H : Hp} {p : Addr} {o : HO} (h : H p = Option.none) : Same H (upd H p o) := fun b u e => by
  rw [upd_ne (ne_of_none e h)]
  exact e
theorem WeekAt.play {CW CP : Addr} {Own : Addr → Prop} {H : Hp} {a : Addr} {w : Uw05.Week} {an ap : Addr} {as : List Addr} (h : WeekAt CW CP Own H a w an ap as) {k : Nat} (h0 : k ≠ 0) (hk : k ≤ w.plays.length) :
    ∃ c p ab, (as.map V.ref)[k - 1]? = some (V.ref c) ∧ w.plays[k - 1]? = some p ∧ w.play k = some p ∧ PlayAt CP H c ab p := by
  obtain ⟨p, hp, hp2⟩ := play_at h0 hk
  have hl : k - 1 < as.length := by rw [h.len]; exact (List.getElem?_eq_some_iff.mp hp).1
  have hc : as[k - 1]? = some as[k - 1] := List.getElem?_eq_getElem hl
  obtain ⟨ab, hab, _⟩ := h.at_ _ _ _ hc hp
  exact ⟨_, p, ab, by rw [List.getElem?_map, hc]; rfl, hp, hp2, hab⟩

/-- what the top has written of names and classes -/
structure Txt (K : PySem.W.Frag) (mg : Str → Option Value) (CW CP CD : Addr) : Prop where
  clW : Cls K CW
  clP : Cls K CP
  clD : Cls K CD
  nNights : NoAttr K CW "nights"
  nPlays : NoAttr K CW "plays"
  nSet : NoAttr K CP "set_up"
  nStrike : NoAttr K CP "strike"
  nRun : NoAttr K CP "may_run"
  nLeast : NoAttr K CP "least"
  nMost : NoAttr K CP "most"
  nBrings : NoAttr K CP "brings"
  nWeek : NoAttr K CD "week"
  hundred : GInt mg "HUNDRED" 100
  mostNights : GInt mg "MOST_NIGHTS" 6
  mostPlays : GInt mg "MOST_PLAYS" 4
  mostCome : GInt mg "MOST_COME" 300
  mostMoney : GInt mg "MOST_MONEY" 100000
  mostBrings : GInt mg "MOST_BRINGS" 6
  dark : GInt mg "DARK" 0
  runs : GInt mg "RUNS" 1
  seldom : GInt mg "SELDOM" 2
  often : GInt mg "OFTEN" 3
  notRight : GInt mg "NOT_RIGHT" (-1)
  noneThere : GInt mg "NONE_THERE" (-2)
  full : GInt mg "FULL" (-5)
  wholes : GTup K mg "WHOLES" (nv wholesN)
  lists : GTup K mg "LISTS" (nv listsN)
  len : mg "len" = none
  range : mg "range" = none
  min : mg "min" = none
  list : mg "list" = none
  sum : mg "sum" = none
end Wp

namespace Wp
open PySem PySem.Spec PyProof.Rows L2
open PySem.W (Codec)
section
variable {P : Program} {w : World} {K : PySem.W.Frag} {mg : Str → Option Value} {base : Heap} {CW CP CD : Addr}

/-! ### within -/
abbrev sWithin : Stmt := top 13
def spWithin : Sp := fun vs H Q _ => ∃ a b c : Int, vs = [.int a, .int b, .int c] ∧ Q (.bl (decide (b ≤ a) && decide (a ≤ c))) H
theorem scWithin : FnScope ["number", "least", "most"] ["number", "least", "most"] (defScope sWithin) := ⟨rfl, rfl, rfl, by decide +kernel, rfl, by decide +kernel, by decide +kernel⟩
theorem ok_within {f : Addr} {fd : FuncData} (F : Fun K "within" "within" sWithin f fd) : FnOk P w K mg base CX0 1 f fd ["number", "least", "most"] spWithin := by
  refine F.ok scWithin (fun vs H Q E h => ?_) (fun cdv A outer s H vs Q E hr h => ?_)
  · obtain ⟨a, b, c, rfl, _⟩ := h
    rfl
  · obtain ⟨a, b, c, rfl, k⟩ := h
    refine ⟨_, pss_one (ps_ret (pe_and (pe_cmpR op_le (pv 1) (pv 0) (nomark _)) (pe_one (pe_cmpR op_le (pv 0) (pv 2) (nomark _))))), ?_⟩
    refine ⟨_, rfl, _, rfl, _, _, rfl, rfl, _, rfl, ?_⟩
    by_cases h1 : b ≤ a
    · rw [decide_eq_true h1] at k ⊢
      refine iteT ⟨_, rfl, _, rfl, _, _, rfl, rfl, ?_⟩
      exact k
    · rw [decide_eq_false h1] at k ⊢
      exact iteF k

/-! ### play_of -/
abbrev sPlayOf : Stmt := top 17
def spPlayOf (CW CP : Addr) : Sp := fun vs H Q _ => ∃ (Own : Addr → Prop) (a : Addr) (wk : Uw05.Week) (an ap : Addr) (as : List Addr) (k : Nat), vs = [.ref a, .int (k : Int)] ∧ WeekAt CW CP Own H a wk an ap as ∧ k ≠ 0 ∧ k ≤ wk.plays.length ∧
  ∀ c p ab, wk.plays[k - 1]? = some p → wk.play k = some p → PlayAt CP H c ab p → Q (.ref c) H
theorem scPlayOf : FnScope ["week", "number"] ["week", "number"] (defScope sPlayOf) := ⟨rfl, rfl, rfl, by decide +kernel, rfl, by decide +kernel, by decide +kernel⟩
theorem ok_playOf {f : Addr} {fd : FuncData} (F : Fun K "play_of" "play_of" sPlayOf f fd) (T : Txt K mg CW CP CD) : FnOk P w K mg base CX0 1 f fd ["week", "number"] (spPlayOf CW CP) := by
  refine F.ok scPlayOf (fun vs H Q E h => ?_) (fun cdv A outer s H vs Q E hr h => ?_)
  · obtain ⟨_, a, wk, an, ap, as, k, rfl, _⟩ := h
    rfl
  · obtain ⟨Own, a, wk, an, ap, as, k, rfl, W, k0, kl, hk⟩ := h
    refine ⟨_, pss_one (ps_ret (pe_ix ix_list (pe_fld (pv 0) rfl) (pe_op op_sub (pv 1) pe_int) (fun _ _ => rfl))), ?_⟩
    obtain ⟨dx, hw⟩ := W.ins
    obtain ⟨c, p, ab, hc, hp, hp2, hP⟩ := W.play k0 kl
    refine ⟨_, rfl, a, CW, dx, _, _, rfl, hw, T.clW, T.nPlays, weekF_plays an ap, _, rfl, _, _, rfl, rfl, ap, _, _, _, rfl, rfl, SqL.of W.pls, at_of (j := k - 1) (v := V.ref c) (by omega) hc, ?_⟩
    exact hk c p ab hp hp2 hP

/-! ### set_up_cost, strike_cost -/
theorem inV_two (k b : Nat) : inV (V.int (k : Int)) [V.int 0, V.int (b : Int)] = decide (k = 0 ∨ k = b) := by
  show (((0 : Int) == (k : Int)) || (((b : Int) == (k : Int)) || false)) = _
  rw [Bool.eq_iff_iff]
  simp only [Bool.or_eq_true, beq_iff_eq, decide_eq_true_eq, Bool.false_eq_true, or_false]
  omega
theorem setUp_no {w : Uw05.Week} {k b : Nat} (h : k = 0 ∨ k = b) : setUp w k b = 0 := if_pos h
theorem setUp_yes {w : Uw05.Week} {k b : Nat} {p : Uw05.Play} (h : ¬ (k = 0 ∨ k = b)) (hp : w.play k = some p) : setUp w k b = p.set := by
  unfold setUp
  rw [if_neg h, hp]
theorem strikeC_no {w : Uw05.Week} {k b : Nat} (h : k = 0 ∨ k = b) : strikeC w k b = 0 := if_pos h
theorem strikeC_yes {w : Uw05.Week} {k b : Nat} {p : Uw05.Play} (h : ¬ (k = 0 ∨ k = b)) (hp : w.play k = some p) : strikeC w k b = p.strike := by
  unfold strikeC
  rw [if_neg h, hp]
abbrev sSetUp : Stmt := top 21
def spSetUp (CW CP : Addr) : Sp := fun vs H Q _ => ∃ (Own : Addr → Prop) (a : Addr) (wk : Uw05.Week) (an ap : Addr) (as : List Addr) (k b : Nat), vs = [.ref a, .int (k : Int), .int (b : Int)] ∧ WeekAt CW CP Own H a wk an ap as ∧ k ≤ wk.plays.length ∧
  ∀ H', Same H H' → Q (.int ((setUp wk k b : Nat) : Int)) H'
theorem scSetUp : FnScope ["week", "number", "before"] ["week", "number", "before"] (defScope sSetUp) := ⟨rfl, rfl, rfl, by decide +kernel, rfl, by decide +kernel, by decide +kernel⟩
theorem ok_setUp {f : Addr} {fd : FuncData} (F : Fun K "set_up_cost" "set_up_cost" sSetUp f fd) (T : Txt K mg CW CP CD) (D1 : Has P w K mg base "play_of" 1 ["week", "number"] (spPlayOf CW CP)) : FnOk P w K mg base CX0 2 f fd ["week", "number", "before"] (spSetUp CW CP) := by
  refine F.ok scSetUp (fun vs H Q E h => ?_) (fun cdv A outer s H vs Q E hr h => ?_)
  · obtain ⟨_, a, wk, an, ap, as, k, b, rfl, _⟩ := h
    rfl
  · obtain ⟨Own, a, wk, an, ap, as, k, b, rfl, W, kl, hk⟩ := h
    refine ⟨_, pss_cons (ps_if (pt_cmpR op_in_seq (pv 1) (pe_tup (pa_cons (pe_gint T.dark rfl) (pa_cons (pv 2) pa_nil))) rfl) (pss_one (ps_ret pe_int)) pss_nil)
      (pss_one (ps_ret (pe_fld (pe_def D1 hr rfl (pa_cons (pv 0) (pa_cons (pv 1) pa_nil))) rfl))), ?_⟩
    refine ⟨_, rfl, _, rfl, (by show 2 ≤ sizeLine; decide), fun p hp => ?_⟩
    refine ⟨p, _, rfl, .inr (SqT.of upd_same), rfl, rfl, _, rfl, ?_⟩
    have W2 := W.same (same_new (o := .tup [V.int 0, V.int (b : Int)]) hp)
    rw [inV_two]
    refine ite2 (fun c => ?_) (fun c => ?_)
    · have h0 := hk _ (same_new (o := .tup [V.int 0, V.int (b : Int)]) hp)
      rw [setUp_no (of_decide_eq_true c)] at h0
      exact h0
    · have c' : ¬ (k = 0 ∨ k = b) := fun q => c (decide_eq_true q)
      refine ⟨_, rfl, _, rfl, Own, a, wk, an, ap, as, k, rfl, W2, fun q => c' (.inl q), kl, fun cc pp ab _ hp2 hP => ?_⟩
      obtain ⟨⟨dx, hx⟩, _⟩ := hP
      refine ⟨cc, CP, dx, _, _, rfl, hx, T.clP, T.nSet, playF_set pp ab, ?_⟩
      have h0 := hk _ (same_new (o := .tup [V.int 0, V.int (b : Int)]) hp)
      rw [setUp_yes c' hp2] at h0
      exact h0
abbrev sStrike : Stmt := top 22
def spStrike (CW CP : Addr) : Sp := fun vs H Q _ => ∃ (Own : Addr → Prop) (a : Addr) (wk : Uw05.Week) (an ap : Addr) (as : List Addr) (k b : Nat), vs = [.ref a, .int (k : Int), .int (b : Int)] ∧ WeekAt CW CP Own H a wk an ap as ∧ k ≤ wk.plays.length ∧
  ∀ H', Same H H' → Q (.int ((strikeC wk k b : Nat) : Int)) H'
theorem scStrike : FnScope ["week", "number", "behind"] ["week", "number", "behind"] (defScope sStrike) := ⟨rfl, rfl, rfl, by decide +kernel, rfl, by decide +kernel, by decide +kernel⟩
theorem ok_strike {f : Addr} {fd : FuncData} (F : Fun K "strike_cost" "strike_cost" sStrike f fd) (T : Txt K mg CW CP CD) (D1 : Has P w K mg base "play_of" 1 ["week", "number"] (spPlayOf CW CP)) : FnOk P w K mg base CX0 2 f fd ["week", "number", "behind"] (spStrike CW CP) := by
  refine F.ok scStrike (fun vs H Q E h => ?_) (fun cdv A outer s H vs Q E hr h => ?_)
  · obtain ⟨_, a, wk, an, ap, as, k, b, rfl, _⟩ := h
    rfl
  · obtain ⟨Own, a, wk, an, ap, as, k, b, rfl, W, kl, hk⟩ := h
    refine ⟨_, pss_cons (ps_if (pt_cmpR op_in_seq (pv 1) (pe_tup (pa_cons (pe_gint T.dark rfl) (pa_cons (pv 2) pa_nil))) rfl) (pss_one (ps_ret pe_int)) pss_nil)
      (pss_one (ps_ret (pe_fld (pe_def D1 hr rfl (pa_cons (pv 0) (pa_cons (pv 1) pa_nil))) rfl))), ?_⟩
    refine ⟨_, rfl, _, rfl, (by show 2 ≤ sizeLine; decide), fun p hp => ?_⟩
    refine ⟨p, _, rfl, .inr (SqT.of upd_same), rfl, rfl, _, rfl, ?_⟩
    have W2 := W.same (same_new (o := .tup [V.int 0, V.int (b : Int)]) hp)
    rw [inV_two]
    refine ite2 (fun c => ?_) (fun c => ?_)
    · have h0 := hk _ (same_new (o := .tup [V.int 0, V.int (b : Int)]) hp)
      rw [strikeC_no (of_decide_eq_true c)] at h0
      exact h0
    · have c' : ¬ (k = 0 ∨ k = b) := fun q => c (decide_eq_true q)
      refine ⟨_, rfl, _, rfl, Own, a, wk, an, ap, as, k, rfl, W2, fun q => c' (.inl q), kl, fun cc pp ab _ hp2 hP => ?_⟩
      obtain ⟨⟨dx, hx⟩, _⟩ := hP
      refine ⟨cc, CP, dx, _, _, rfl, hx, T.clP, T.nStrike, playF_strike pp ab, ?_⟩
      have h0 := hk _ (same_new (o := .tup [V.int 0, V.int (b : Int)]) hp)
      rw [strikeC_yes c' hp2] at h0
      exact h0
end
end Wp

namespace Wp
open PySem PySem.Spec PyProof.Rows L2
open PySem.W (Codec)
theorem ifT {c : Bool} {A B : Prop} (hc : c = true) (h : A) : if c = true then A else B := by
  rw [if_pos hc]
  exact h
theorem ifF {c : Bool} {A B : Prop} (hc : c = false) (h : B) : if c = true then A else B := by
  rw [hc, if_neg Bool.false_ne_true]
  exact h
theorem eqT {i j : Int} (h : i = j) : decide (V.int i = V.int j) = true := decide_eq_true (congrArg V.int h)
theorem eqF {i j : Int} (h : ¬ i = j) : decide (V.int i = V.int j) = false := decide_eq_false fun e => h (V.int.inj e)
theorem neT {i j : Int} (h : ¬ i = j) : (!decide (V.int i = V.int j)) = true := by
  rw [eqF h]
  rfl
theorem neF {i j : Int} (h : i = j) : (!decide (V.int i = V.int j)) = false := by
  rw [eqT h]
  rfl
section
variable {P : Program} {w : World} {K : PySem.W.Frag} {mg : Str → Option Value} {base : Heap} {CW CP CD : Addr}

/-! ### does_run -/
abbrev sRun : Stmt := top 25
def spRun (CW CP : Addr) (K : PySem.W.Frag) : Sp := fun vs H Q _ => ∃ (Own : Addr → Prop) (a : Addr) (wk : Uw05.Week) (an ap : Addr) (as : List Addr) (l : Addr) (b : Uw05.Bill) (i : Nat), vs = [.ref a, .ref l, .int (i : Int)] ∧ WeekAt CW CP Own H a wk an ap as ∧
  SqL K H l (nv b) ∧ 0 < i ∧ i < b.length ∧ b.getD i 0 ≤ wk.plays.length ∧ Q (.bl (runAt wk b i)) H
theorem runAt_dark {wk : Uw05.Week} {b : Uw05.Bill} {i : Nat} (h : b.getD i 0 = 0) : runAt wk b i = false := by
  unfold runAt
  rw [h]
  simp
theorem runAt_other {wk : Uw05.Week} {b : Uw05.Bill} {i : Nat} (h : ¬ b.getD (i - 1) 0 = b.getD i 0) : runAt wk b i = false := by
  unfold runAt
  have e : (b.getD (i - 1) 0 == b.getD i 0) = false := by simpa using h
  rw [e, Bool.false_and, Bool.and_false, Bool.and_false]
theorem runAt_same {wk : Uw05.Week} {b : Uw05.Bill} {i : Nat} {p : Uw05.Play} (hi : 0 < i) (h0 : ¬ b.getD i 0 = 0) (h : b.getD (i - 1) 0 = b.getD i 0) (hp : wk.play (b.getD i 0) = some p) : runAt wk b i = !p.runs := by
  unfold runAt
  have e : (b.getD (i - 1) 0 == b.getD i 0) = true := by simpa using h
  have e0 : (b.getD i 0 != 0) = true := by simpa using h0
  rw [e, e0, hp, decide_eq_true hi]
  rfl
theorem scRun : FnScope ["week", "bill", "night", "number"] ["week", "bill", "night"] (defScope sRun) := ⟨rfl, rfl, rfl, by decide +kernel, rfl, by decide +kernel, by decide +kernel⟩
theorem ok_run {f : Addr} {fd : FuncData} (F : Fun K "does_run" "does_run" sRun f fd) (T : Txt K mg CW CP CD) (D1 : Has P w K mg base "play_of" 1 ["week", "number"] (spPlayOf CW CP)) : FnOk P w K mg base CX0 2 f fd ["week", "bill", "night"] (spRun CW CP K) := by
  refine F.ok scRun (fun vs H Q E h => ?_) (fun cdv A outer s H vs Q E hr h => ?_)
  · obtain ⟨_, a, wk, an, ap, as, l, b, i, rfl, _⟩ := h
    rfl
  · obtain ⟨Own, a, wk, an, ap, as, l, b, i, rfl, W, hb, i0, hi, hk, k⟩ := h
    refine ⟨_, pss_cons (ps_set (i := 3) scRun.nd rfl (.inl rfl) (pe_ix ix_list (pv 1) (pv 2) (fun _ _ => rfl)))
      (pss_one (ps_ret (pe_and (pe_cmpR op_ne (pv 3) (pe_gint T.dark rfl) (nomark _)) (pe_and (pe_cmpR op_eq (pe_ix ix_list (pv 1) (pe_op op_sub (pv 2) pe_int) (fun _ _ => rfl)) (pv 3) (nomark _))
        (pe_one (pe_cmpR op_eq (pe_fld (pe_def D1 hr rfl (pa_cons (pv 0) (pa_cons (pv 3) pa_nil))) rfl) pe_int (nomark _))))))), ?_⟩
    refine ⟨_, rfl, _, rfl, l, _, _, _, rfl, rfl, hb, atI_nat (nv_atD hi), ?_⟩
    refine ⟨_, rfl, rfl, _, rfl, ?_⟩
    by_cases h0 : b.getD i 0 = 0
    · rw [runAt_dark h0] at k
      exact ifF (neF (by omega)) k
    refine ifT (neT (by omega)) ?_
    refine ⟨_, rfl, _, rfl, _, _, rfl, rfl, l, _, _, _, rfl, rfl, hb, at_of (j := i - 1) (by omega) (nv_atD (by omega)), _, rfl, rfl, _, rfl, ?_⟩
    by_cases h1 : b.getD (i - 1) 0 = b.getD i 0
    · refine ifT (eqT (by omega)) ?_
      refine ⟨_, rfl, _, rfl, Own, a, wk, an, ap, as, b.getD i 0, rfl, W, h0, hk, fun cc pp ab _ hp2 hP => ?_⟩
      obtain ⟨⟨dx, hx⟩, _⟩ := hP
      refine ⟨cc, CP, dx, _, _, rfl, hx, T.clP, T.nRun, playF_runs pp ab, rfl, ?_⟩
      rw [runAt_same i0 h0 h1 hp2] at k
      cases hr2 : pp.runs with
      | true =>
        rw [hr2] at k
        exact k
      | false =>
        rw [hr2] at k
        exact k
    · rw [runAt_other h1] at k
      exact ifF (eqF (by omega)) k

/-! ### taken -/
abbrev sTaken : Stmt := top 19
def spTaken (CW CP : Addr) : Sp := fun vs H Q _ => ∃ (Own : Addr → Prop) (a : Addr) (wk : Uw05.Week) (an ap : Addr) (as : List Addr) (i k b : Nat), vs = [.ref a, .int (i : Int), .int (k : Int), .int (b : Int)] ∧ WeekAt CW CP Own H a wk an ap as ∧
  i < wk.nights.length ∧ k ≤ wk.plays.length ∧ Q (.int ((taken wk i k b : Nat) : Int)) H
theorem scTaken : FnScope ["week", "night", "number", "before", "brings"] ["week", "night", "number", "before"] (defScope sTaken) := ⟨rfl, rfl, rfl, by decide +kernel, rfl, by decide +kernel, by decide +kernel⟩
theorem min_if (b n : Nat) : (if ((n : Int)) < (b : Int) then (n : Int) else (b : Int)) = ((min b n : Nat) : Int) := by
  by_cases h : (n : Int) < (b : Int)
  · rw [if_pos h]
    omega
  · rw [if_neg h]
    omega
theorem ok_taken {f : Addr} {fd : FuncData} (F : Fun K "taken" "taken" sTaken f fd) (T : Txt K mg CW CP CD) (D1 : Has P w K mg base "play_of" 1 ["week", "number"] (spPlayOf CW CP)) : FnOk P w K mg base CX0 2 f fd ["week", "night", "number", "before"] (spTaken CW CP) := by
  refine F.ok scTaken (fun vs H Q E h => ?_) (fun cdv A outer s H vs Q E hr h => ?_)
  · obtain ⟨_, a, wk, an, ap, as, i, k, b, rfl, _⟩ := h
    rfl
  · obtain ⟨Own, a, wk, an, ap, as, i, k, b, rfl, W, hi, hk, q⟩ := h
    refine ⟨_, pss_cons (ps_if (pt_cmpR op_eq (pv 2) (pe_gint T.dark rfl) (nomark _)) (pss_one (ps_ret pe_int)) pss_nil)
      (pss_cons (ps_set (i := 4) scTaken.nd rfl (.inl rfl) (pe_fld (pe_def D1 hr rfl (pa_cons (pv 0) (pa_cons (pv 2) pa_nil))) rfl))
      (pss_one (ps_ret (pe_op op_fdiv (pe_op op_mul
        (pe_ix ix_list (pv 4) (pe_callB (call_min2 rfl) (by rfl) T.min (by decide +kernel) (pa_cons (pv 3) (pa_cons (pe_op op_sub (pe_callB call_len_seq (by rfl) T.len PySem.boot_len (pa_cons (pv 4) pa_nil)) pe_int) pa_nil))) (fun _ _ => rfl))
        (pe_ix ix_list (pe_fld (pv 0) rfl) (pv 1) (fun _ _ => rfl))) (pe_gint T.hundred rfl))))), ?_⟩
    refine ⟨_, rfl, rfl, _, rfl, ?_⟩
    by_cases h0 : k = 0
    · subst h0
      rw [taken_zero] at q
      exact ifT (eqT rfl) q
    refine ifF (eqF (by omega)) ?_
    refine ⟨_, rfl, _, rfl, Own, a, wk, an, ap, as, k, rfl, W, h0, hk, fun cc pp ab hpp hp2 hP => ?_⟩
    obtain ⟨⟨dx, hx⟩, hbr⟩ := hP
    refine ⟨cc, CP, dx, _, _, rfl, hx, T.clP, T.nBrings, playF_brings pp ab, ?_⟩
    obtain ⟨dw, hw⟩ := W.ins
    obtain ⟨hb1, hb2⟩ := W.ok.pb pp (List.mem_of_getElem? hpp)
    rw [taken_pos hp2] at q
    have hnl := W.ok.nv
    have e1 : (if ((nv pp.brings).length : Int) - 1 < (b : Int) then ((nv pp.brings).length : Int) - 1 else (b : Int)) = ((min b (pp.brings.length - 1) : Nat) : Int) := by
      rw [nv_length, ← min_if]
      have : ((pp.brings.length - 1 : Nat) : Int) = (pp.brings.length : Int) - 1 := by omega
      rw [this]
    refine ⟨_, rfl, _, rfl, _, rfl, ab, _, rfl, .inl (SqL.of hbr), _, _, rfl, rfl, _, _, rfl, ab, _, _, _, rfl, rfl, SqL.of hbr, at_of e1 (nv_atD (by omega)), ?_⟩
    refine ⟨_, rfl, a, CW, dw, _, _, rfl, hw, T.clW, T.nNights, weekF_nights an ap, _, rfl, an, _, _, _, rfl, rfl, SqL.of W.nts, atI_nat (nv_atD hi), ?_⟩
    have hn : wk.nights.getD i 0 ≤ 300 := by
      rw [List.getD_eq_getElem?_getD, List.getElem?_eq_getElem hi]
      exact hnl _ (List.getElem_mem hi)
    refine ⟨_, _, rfl, rfl, .inr ⟨by omega, by omega⟩, _, _, rfl, rfl, ⟨by decide, by decide⟩, ?_⟩
    have e : ((pp.brings.getD (min b (pp.brings.length - 1)) 0 : Nat) : Int) * ((wk.nights.getD i 0 : Nat) : Int) / 100 = ((pp.brings.getD (min b (pp.brings.length - 1)) 0 * wk.nights.getD i 0 / 100 : Nat) : Int) := by
      rw [Int.natCast_ediv, Int.natCast_mul]
      rfl
    rw [← e] at q
    exact q

/-! ### told -/
abbrev sTold : Stmt := top 37
def spTold (K : PySem.W.Frag) : Sp := fun vs H Q _ => ∃ (l : Addr) (ns : List Int), vs = [.ref l] ∧ SqL K H l (ns.map V.int) ∧ ns.length ≤ 1000 ∧
  ∀ H' p, Same H H' → H p = Option.none → H' p = some (.lst ((((ns.length : Nat) : Int) :: ns).map V.int)) → Q (.ref p) H'
theorem scTold : FnScope ["some"] ["some"] (defScope sTold) := ⟨rfl, rfl, rfl, by decide +kernel, rfl, by decide +kernel, by decide +kernel⟩
theorem ok_told {f : Addr} {fd : FuncData} (F : Fun K "told" "told" sTold f fd) (T : Txt K mg CW CP CD) : FnOk P w K mg base CX0 1 f fd ["some"] (spTold K) := by
  refine F.ok scTold (fun vs H Q E h => ?_) (fun cdv A outer s H vs Q E hr h => ?_)
  · obtain ⟨l, ns, rfl, _⟩ := h
    rfl
  · obtain ⟨l, ns, rfl, hl, hn, q⟩ := h
    refine ⟨_, pss_one (ps_ret (pe_op op_cat (pe_lst (pa_cons (pe_callB call_len_seq (by rfl) T.len PySem.boot_len (pa_cons (pv 0) pa_nil)) pa_nil)) (pe_callTy call_list_of (by rfl) T.list (by decide +kernel) (pa_cons (pv 0) pa_nil)))), ?_⟩
    refine ⟨_, rfl, l, _, rfl, .inl hl, (by show 1 ≤ sizeLine; decide), fun p1 h1 => ?_⟩
    have s1 := same_new (o := .lst [V.int ((ns.map V.int).length : Int)]) h1
    refine ⟨_, rfl, l, _, rfl, .inl (s1.seq hl), fun p2 h2 => ?_⟩
    have s2 := same_new (o := .lst (ns.map V.int)) h2
    refine ⟨p1, p2, _, _, rfl, rfl, s2 _ _ upd_same, upd_same, ?_, fun p3 h3 => ?_⟩
    · rw [List.length_map]
      show 1 + ns.length ≤ sizeLine
      have : 1001 ≤ sizeLine := by decide
      omega
    · have s3 := same_new (o := .lst ([V.int ((ns.map V.int).length : Int)] ++ ns.map V.int)) h3
      refine q _ p3 ((s1.trans s2).trans s3) ((s1.trans s2).free h3) ?_
      rw [upd_same, List.length_map]
      rfl
end
end Wp

namespace Wp
open PySem PySem.Spec PyProof.Rows L2
open PySem.W (Codec)
/-! ### lists compared with [] -/
theorem dpAll_ints (K : PySem.W.Frag) (H : Hp) : ∀ ns : List Int, DpAll K H (ns.map V.int) (ns.map PyData.int)
  | [] => .nil
  | n :: ns => .cons (.int n) (dpAll_ints K H ns)
theorem dp_ints {K : PySem.W.Frag} {H : Hp} {a : Addr} {ns : List Int} (h : SqL K H a (ns.map V.int)) : Dp K H (.ref a) (.list (ns.map PyData.int)) := .lst h (dpAll_ints K H ns)
theorem eqv_nil (ds : List PyData) : PyData.eqv (.list ds) (.list []) = ds.isEmpty := by
  cases ds <;> simp [PyData.eqv, PyData.eqvAll]
theorem sh_ints (ns : List Int) : SeqAt.shaped (.list (ns.map PyData.int)) = true := PySem.W.ke_shaped_ints ns
theorem sh_nil : SeqAt.shaped (.list []) = true := by decide +kernel
/-! ### which of a list are above a number -/
def above (m : Nat) (l : List Nat) : List Nat := l.filter fun n => decide (m < n)
theorem above_nil {m : Nat} {l : List Nat} : (above m l).isEmpty = l.all fun x => decide (x ≤ m) := by
  unfold above
  induction l with
  | nil => rfl
  | cons a l ih =>
    rw [List.filter_cons, List.all_cons, ← ih]
    by_cases h : m < a
    · have e1 : decide (m < a) = true := decide_eq_true h
      have e2 : decide (a ≤ m) = false := decide_eq_false (by omega)
      rw [if_pos e1, e2]
      rfl
    · have e1 : ¬ decide (m < a) = true := fun q => h (of_decide_eq_true q)
      have e2 : decide (a ≤ m) = true := decide_eq_true (by omega)
      rw [if_neg e1, e2, Bool.true_and]
theorem take_snoc {α : Type} : ∀ {l : List α} {i : Nat} {x : α}, l[i]? = some x → l.take (i + 1) = l.take i ++ [x]
  | [], i, x, h => by simp at h
  | a :: l, 0, x, h => by
    have e : a = x := Option.some.inj h
    subst e
    rfl
  | a :: l, i + 1, x, h => by
    have ih := take_snoc (l := l) (i := i) (x := x) h
    show a :: l.take (i + 1) = a :: l.take i ++ [x]
    rw [ih]
    rfl
theorem above_more {m : Nat} {l : List Nat} {i n : Nat} (h : l[i]? = some n) : above m (l.take (i + 1)) = if m < n then above m (l.take i) ++ [n] else above m (l.take i) := by
  unfold above
  rw [take_snoc h, List.filter_append, List.filter_cons]
  by_cases c : m < n
  · rw [if_pos (decide_eq_true c), if_pos c]
    rfl
  · rw [if_neg (fun q => c (of_decide_eq_true q)), if_neg c, List.filter_nil, List.append_nil]
theorem above_length (m : Nat) (l : List Nat) : (above m l).length ≤ l.length := List.length_filter_le _ _
theorem nv_out {l : List Nat} {i : Nat} {x : V} (h : (nv l)[i]? = some x) : ∃ n, l[i]? = some n ∧ x = V.int (n : Int) := by
  rw [nv_get] at h
  cases e : l[i]? with
  | none =>
    rw [e] at h
    cases h
  | some n =>
    rw [e] at h
    exact ⟨n, rfl, (Option.some.inj h).symm⟩
theorem size_1000 {n : Nat} (h : n ≤ 1000) : n < sizeLine := Nat.lt_of_le_of_lt h (by decide)
/-- the reading of a comprehension that keeps what is above a number -/
theorem lc_above {K : PySem.W.Frag} {a D : Addr} {H H1 : Hp} {l : List Nat} {m : Nat} {g : TG} {tt : TT} {te : TE} {vs : List Nat} {σ : L2.St} {Qd : Hp → Prop} (hl : SqL K H a (nv l)) (hH : Same H H1) (hD : H1 D = Option.none) (hn : l.length ≤ 1000)
    (hs : ∀ (i n : Nat) (H' : Hp) (acc : List V), l[i]? = some n → Same H H' → acc.length < sizeLine → H' D = some (.lst acc) → (∀ (H3 : Hp) (Pv : Hp → Prop), H3 = H' →
      (m < n → Pv (upd H3 D (.lst (acc ++ [V.int (n : Int)])))) → (¬ m < n → Pv H3) → g (V.int (n : Int)) (wipe σ vs) H' fun σ2 H2 => wipe σ2 vs = wipe σ vs ∧ tt σ2 H2 fun b H3 => if b = true then te σ2 H3 fun y H4 => ∃ acc, H4 D = some (.lst acc) ∧ acc.length < sizeLine ∧ Pv (upd H4 D (.lst (acc ++ [y]))) else Pv H3))
    (hd : ∀ H', Same H1 H' → H' D = some (.lst (nv (above m l))) → Qd H') :
    ∃ W : Nat → Nat → Hp → Prop, (∃ m, W 0 m (upd H1 D (.lst []))) ∧ ∀ i m H, W i m H →
      ((Itl K a).stop i H ∧ Qd H) ∨ ((Itl K a).go i H ∧ ∃ Nx : Hp → Prop, (∀ H', Nx H' → ∃ m', m' < m ∧ W (i + 1) m' H') ∧ ∀ x H', (Itl K a).yld i H x H' → g x (wipe σ vs) H' fun σ2 H2 => wipe σ2 vs = wipe σ vs ∧ tt σ2 H2 fun b H3 =>
        if b = true then te σ2 H3 fun y H4 => ∃ acc, H4 D = some (.lst acc) ∧ acc.length < sizeLine ∧ Nx (upd H4 D (.lst (acc ++ [y]))) else Nx H3) := by
  refine lc_list (K := K) (a := a) (xs := nv l) (fun i H' => Same H1 H' ∧ H' D = some (.lst (nv (above m (l.take i))))) ⟨same_new hD, upd_same⟩ (fun i H' _ ⟨s, _⟩ => (hH.trans s).seq hl) ?_ ?_
  · rintro i x H' hx ⟨s, hacc⟩
    obtain ⟨n, hn2, rfl⟩ := nv_out hx
    have hsz : (nv (above m (l.take i))).length < sizeLine := by
      rw [nv_length]
      refine size_1000 (Nat.le_trans (above_length _ _) (Nat.le_trans ?_ hn))
      rw [List.length_take]
      omega
    refine hs i n H' _ hn2 (hH.trans s) hsz hacc H' (fun H'' => Same H1 H'' ∧ H'' D = some (.lst (nv (above m (l.take (i + 1)))))) rfl (fun c => ⟨fun b o e => ?_, ?_⟩) (fun c => ⟨s, ?_⟩)
    · rw [upd_ne (ne_of_none e hD)]
      exact s b o e
    · rw [upd_same, above_more hn2, if_pos c, nv_append]
      rfl
    · rw [above_more hn2, if_neg c]
      exact hacc
  · rintro H' ⟨s, hacc⟩
    rw [nv_length, List.take_length] at hacc
    exact hd H' s hacc
/-- len, by the fragment's own letter -/
def rLenS (K : PySem.W.Frag) : List V → Hp → VK → Prop := fun xs H Q => ∃ p ys, xs = [V.ref p] ∧ (SqL K H p ys ∨ SqT K H p ys) ∧ Q (.int (ys.length : Int)) H
theorem call_lenK {X : Cx} : CallR X (.builtin "len") (rLenS X.K) := call_len_seq
section
variable {P : Program} {w : World} {K : PySem.W.Frag} {mg : Str → Option Value} {base : Heap} {CW CP CD : Addr}
/-! ### are_nights, are_brings -/
def areN (l : List Nat) : Bool := (decide (1 ≤ l.length) && decide (l.length ≤ 6)) && l.all fun x => decide (x ≤ 300)
def areB (l : List Nat) : Bool := (decide (1 ≤ l.length) && decide (l.length ≤ 6)) && l.all fun x => decide (x ≤ 100000)
def spAre (K : PySem.W.Frag) (are : List Nat → Bool) : Sp := fun vs H Q _ => ∃ (a : Addr) (l : List Nat), vs = [.ref a] ∧ SqL K H a (nv l) ∧ l.length ≤ 1000 ∧ ∀ H', Same H H' → Q (.bl (are l)) H'
abbrev sAreN : Stmt := top 14
theorem scAreN : FnScope ["come", "number"] ["come"] (defScope sAreN) := ⟨rfl, rfl, rfl, by decide +kernel, rfl, by decide +kernel, by decide +kernel⟩
theorem dec_nat1 (n : Nat) : decide ((1 : Int) ≤ (n : Int)) = decide (1 ≤ n) := by
  rw [Bool.eq_iff_iff, decide_eq_true_eq, decide_eq_true_eq]
  omega
theorem dec_nat6 (n : Nat) : decide ((n : Int) ≤ (6 : Int)) = decide (n ≤ 6) := by
  rw [Bool.eq_iff_iff, decide_eq_true_eq, decide_eq_true_eq]
  omega
theorem ok_areN {f : Addr} {fd : FuncData} (F : Fun K "are_nights" "are_nights" sAreN f fd) (T : Txt K mg CW CP CD) (D1 : Has P w K mg base "within" 1 ["number", "least", "most"] spWithin) : FnOk P w K mg base CX0 2 f fd ["come"] (spAre K areN) := by
  refine F.ok scAreN (fun vs H Q E h => ?_) (fun cdv A outer s H vs Q E hr h => ?_)
  · obtain ⟨a, l, rfl, _⟩ := h
    rfl
  · obtain ⟨a, l, rfl, hl, hn, q⟩ := h
    refine ⟨_, pss_one (ps_ret (pe_and (pe_def D1 hr rfl (pa_cons (pe_callB call_len_seq (by rfl) T.len PySem.boot_len (pa_cons (pv 0) pa_nil)) (pa_cons pe_int (pa_cons (pe_gint T.mostNights rfl) pa_nil))))
      (pe_one (pe_cmpR (op_eqD hr.units) (pe_lc (own := [("number", 1)]) (g := gName 1) (by rfl) scAreN.nd (pi_list (pv 0)) (blkOk_by (own := [("number", 1)]) (N := ["come", "number"]) (sc := defScope sAreN) (by decide +kernel))
        (fun _ _ _ _ _ => pg_name (i := 1) scAreN.nd rfl (Or.inl rfl)) (fun _ _ _ _ _ => pts_one (pt_cmpR op_gt (pv 1) (pe_gint T.mostCome rfl) (nomark _))) (fun _ _ _ _ _ => pv 1)) (pe_lst pa_nil) (nomark _))))), ?_⟩
    refine ⟨_, rfl, a, _, rfl, .inl hl, _, _, _, rfl, _, rfl, ?_⟩
    have q2 := fun H' s => q H' s
    unfold areN at q2
    rw [nv_length, dec_nat1, dec_nat6]
    cases c : (decide (1 ≤ l.length) && decide (l.length ≤ 6)) with
    | false =>
      rw [c] at q2
      exact iteF (q2 H (Same.refl H))
    | true =>
      rw [c, Bool.true_and] at q2
      refine iteT ?_
      refine ⟨_, rfl, a, rfl, ⟨_, hl⟩, fun D hD => lc_above (l := l) (m := 300) hl (Same.refl H) hD hn ?_ ?_⟩
      · intro i n H' acc hi s hsz hacc H3 Pv e3 k1 k2
        subst e3
        refine ⟨rfl, _, rfl, _, _, rfl, rfl, _, rfl, ?_⟩
        by_cases c2 : 300 < n
        · exact ifT (decide_eq_true (by omega)) ⟨_, rfl, acc, hacc, hsz, k1 c2⟩
        · exact ifF (decide_eq_false (by omega)) (k2 c2)
      · intro H' s hacc
        refine ⟨Nat.zero_le _, fun p hp => ?_⟩
        have s2 := same_new (o := .lst []) hp
        refine ⟨_, _, dp_ints (SqL.of (s2 _ _ hacc)), dp_ints (ns := []) (SqL.of upd_same), sh_ints _, sh_nil, ?_⟩
        rw [show (([] : List Int).map PyData.int) = [] from rfl, eqv_nil]
        have e : ((ins (above 300 l)).map PyData.int).isEmpty = l.all fun x => decide (x ≤ 300) := by
          rw [← above_nil, ins]
          cases above 300 l <;> rfl
        rw [e]
        exact q2 _ (s.trans s2)
abbrev sAreB : Stmt := top 15
theorem scAreB : FnScope ["brings", "number"] ["brings"] (defScope sAreB) := ⟨rfl, rfl, rfl, by decide +kernel, rfl, by decide +kernel, by decide +kernel⟩
theorem ok_areB {f : Addr} {fd : FuncData} (F : Fun K "are_brings" "are_brings" sAreB f fd) (T : Txt K mg CW CP CD) (D1 : Has P w K mg base "within" 1 ["number", "least", "most"] spWithin) : FnOk P w K mg base CX0 2 f fd ["brings"] (spAre K areB) := by
  refine F.ok scAreB (fun vs H Q E h => ?_) (fun cdv A outer s H vs Q E hr h => ?_)
  · obtain ⟨a, l, rfl, _⟩ := h
    rfl
  · obtain ⟨a, l, rfl, hl, hn, q⟩ := h
    refine ⟨_, pss_one (ps_ret (pe_and (pe_def D1 hr rfl (pa_cons (pe_callB call_len_seq (by rfl) T.len PySem.boot_len (pa_cons (pv 0) pa_nil)) (pa_cons pe_int (pa_cons (pe_gint T.mostBrings rfl) pa_nil))))
      (pe_one (pe_cmpR (op_eqD hr.units) (pe_lc (own := [("number", 1)]) (g := gName 1) (by rfl) scAreB.nd (pi_list (pv 0)) (blkOk_by (own := [("number", 1)]) (N := ["brings", "number"]) (sc := defScope sAreB) (by decide +kernel))
        (fun _ _ _ _ _ => pg_name (i := 1) scAreB.nd rfl (Or.inl rfl)) (fun _ _ _ _ _ => pts_one (pt_cmpR op_gt (pv 1) (pe_gint T.mostMoney rfl) (nomark _))) (fun _ _ _ _ _ => pv 1)) (pe_lst pa_nil) (nomark _))))), ?_⟩
    refine ⟨_, rfl, a, _, rfl, .inl hl, _, _, _, rfl, _, rfl, ?_⟩
    have q2 := fun H' s => q H' s
    unfold areB at q2
    rw [nv_length, dec_nat1, dec_nat6]
    cases c : (decide (1 ≤ l.length) && decide (l.length ≤ 6)) with
    | false =>
      rw [c] at q2
      exact iteF (q2 H (Same.refl H))
    | true =>
      rw [c, Bool.true_and] at q2
      refine iteT ?_
      refine ⟨_, rfl, a, rfl, ⟨_, hl⟩, fun D hD => lc_above (l := l) (m := 100000) hl (Same.refl H) hD hn ?_ ?_⟩
      · intro i n H' acc hi s hsz hacc H3 Pv e3 k1 k2
        subst e3
        refine ⟨rfl, _, rfl, _, _, rfl, rfl, _, rfl, ?_⟩
        by_cases c2 : 100000 < n
        · exact ifT (decide_eq_true (by omega)) ⟨_, rfl, acc, hacc, hsz, k1 c2⟩
        · exact ifF (decide_eq_false (by omega)) (k2 c2)
      · intro H' s hacc
        refine ⟨Nat.zero_le _, fun p hp => ?_⟩
        have s2 := same_new (o := .lst []) hp
        refine ⟨_, _, dp_ints (SqL.of (s2 _ _ hacc)), dp_ints (ns := []) (SqL.of upd_same), sh_ints _, sh_nil, ?_⟩
        rw [show (([] : List Int).map PyData.int) = [] from rfl, eqv_nil]
        have e : ((ins (above 100000 l)).map PyData.int).isEmpty = l.all fun x => decide (x ≤ 100000) := by
          rw [← above_nil, ins]
          cases above 100000 l <;> rfl
        rw [e]
        exact q2 _ (s.trans s2)
/-! ### is_bill -/
abbrev sIsBill : Stmt := top 18
def isBill (wk : Uw05.Week) (b : Uw05.Bill) : Bool := decide (b.length = wk.nights.length) && b.all fun x => decide (x ≤ wk.plays.length)
def spIsBill (CW CP : Addr) (K : PySem.W.Frag) : Sp := fun vs H Q _ => ∃ (Own : Addr → Prop) (a : Addr) (wk : Uw05.Week) (an ap : Addr) (as : List Addr) (l : Addr) (b : List Nat), vs = [.ref a, .ref l] ∧ WeekAt CW CP Own H a wk an ap as ∧ SqL K H l (nv b) ∧ b.length ≤ 1000 ∧ ∀ H', Same H H' → Q (.bl (isBill wk b)) H'
theorem scIsBill : FnScope ["week", "bill", "number"] ["week", "bill"] (defScope sIsBill) := ⟨rfl, rfl, rfl, by decide +kernel, rfl, by decide +kernel, by decide +kernel⟩
theorem ok_isBill {f : Addr} {fd : FuncData} (F : Fun K "is_bill" "is_bill" sIsBill f fd) (T : Txt K mg CW CP CD) : FnOk P w K mg base CX0 1 f fd ["week", "bill"] (spIsBill CW CP K) := by
  refine F.ok scIsBill (fun vs H Q E h => ?_) (fun cdv A outer s H vs Q E hr h => ?_)
  · obtain ⟨_, a, wk, an, ap, as, l, b, rfl, _⟩ := h
    rfl
  · obtain ⟨Own, a, wk, an, ap, as, lb, l, rfl, W, hl, hn, q⟩ := h
    refine ⟨_, pss_one (ps_ret (pe_and (pe_cmpR op_eq (pe_callB call_len_seq (by rfl) T.len PySem.boot_len (pa_cons (pv 1) pa_nil)) (pe_callB call_len_seq (by rfl) T.len PySem.boot_len (pa_cons (pe_fld (pv 0) rfl) pa_nil)) (nomark _))
      (pe_one (pe_cmpR (op_eqD hr.units) (pe_lc (own := [("number", 2)]) (g := gName 2) (tt := tTest (tOp (rI0 fun i j => .bl (decide (j < i))) (tVar 2) (tCB (rLenS K) (tCons (tFld K (tVar 0) "plays") tNil)))) (by rfl) scIsBill.nd (pi_list (pv 1)) (blkOk_by (own := [("number", 2)]) (N := ["week", "bill", "number"]) (sc := defScope sIsBill) (by decide +kernel))
        (fun _ _ _ _ _ => pg_name (i := 2) scIsBill.nd rfl (Or.inl rfl)) (fun _ _ _ _ _ => by exact pts_one (pt_cmpR op_gt (pv 2) (pe_callB call_lenK (by rfl) T.len PySem.boot_len (pa_cons (pe_fld (pv 0) rfl) pa_nil)) (nomark _))) (fun _ _ _ _ _ => pv 2)) (pe_lst pa_nil) (nomark _))))), ?_⟩
    obtain ⟨dw, hw⟩ := W.ins
    refine ⟨_, rfl, lb, _, rfl, .inl hl, _, rfl, a, CW, dw, _, _, rfl, hw, T.clW, T.nNights, weekF_nights an ap, an, _, rfl, .inl (SqL.of W.nts), rfl, _, rfl, ?_⟩
    have q2 := fun H' s => q H' s
    unfold isBill at q2
    rw [nv_length, nv_length]
    by_cases c : l.length = wk.nights.length
    · rw [decide_eq_true c, Bool.true_and] at q2
      refine ifT (eqT (by omega)) ?_
      refine ⟨_, rfl, lb, rfl, ⟨_, hl⟩, fun D hD => lc_above (l := l) (m := wk.plays.length) hl (Same.refl H) hD hn ?_ ?_⟩
      · intro i n H' acc hi s hsz hacc H3 Pv e3 k1 k2
        subst e3
        have W2 := W.same s
        refine ⟨rfl, _, rfl, _, rfl, a, CW, dw, _, _, rfl, s _ _ hw, T.clW, T.nPlays, weekF_plays an ap, ap, _, rfl, .inl (SqL.of W2.pls), _, _, rfl, rfl, _, rfl, ?_⟩
        have el : ((as.map V.ref).length : Int) = (wk.plays.length : Int) := by rw [List.length_map, W.len]
        rw [el]
        by_cases c2 : wk.plays.length < n
        · exact ifT (decide_eq_true (by omega)) ⟨_, rfl, acc, hacc, hsz, k1 c2⟩
        · exact ifF (decide_eq_false (by omega)) (k2 c2)
      · intro H' s hacc
        refine ⟨Nat.zero_le _, fun p hp => ?_⟩
        have s2 := same_new (o := .lst []) hp
        refine ⟨_, _, dp_ints (SqL.of (s2 _ _ hacc)), dp_ints (ns := []) (SqL.of upd_same), sh_ints _, sh_nil, ?_⟩
        rw [show (([] : List Int).map PyData.int) = [] from rfl, eqv_nil]
        have e : ((ins (above wk.plays.length l)).map PyData.int).isEmpty = l.all fun x => decide (x ≤ wk.plays.length) := by
          rw [← above_nil, ins]
          cases above wk.plays.length l <;> rfl
        rw [e]
        exact q2 _ (s.trans s2)
    · rw [decide_eq_false c, Bool.false_and] at q2
      exact ifF (eqF (by omega)) (q2 H (Same.refl H))
end
end Wp

namespace Wp
open PySem PySem.Spec PyProof.Rows L2
open PySem.W (Codec)
section
variable {P : Program} {w : World} {K : PySem.W.Frag} {mg : Str → Option Value} {base : Heap} {CW CP CD : Addr}
/-! ### is_play -/
abbrev sIsPlay : Stmt := top 16
theorem playOk_eq (wk : Uw05.Week) (p : Uw05.Play) : Uw05.playOk wk p = ((decide (p.set ≤ 100000) && (decide (p.strike ≤ 100000) && areB p.brings)) && (decide (p.least ≤ p.most) && decide (p.most ≤ wk.nights.length))) := by
  unfold Uw05.playOk areB Uw05.NIGHTS Uw05.MOST
  cases decide (1 ≤ p.brings.length) <;> cases decide (p.brings.length ≤ 6) <;> cases (p.brings.all fun x => decide (x ≤ 100000)) <;> cases decide (p.set ≤ 100000) <;> cases decide (p.strike ≤ 100000) <;> cases decide (p.least ≤ p.most) <;> rfl
def spIsPlay (CW CP : Addr) (K : PySem.W.Frag) : Sp := fun vs H Q _ => ∃ (Own : Addr → Prop) (a : Addr) (wk : Uw05.Week) (an ap : Addr) (as : List Addr) (ln lb : Addr) (s t b m n : Nat) (l : List Nat), vs = [.ref a, .ref ln, .ref lb] ∧ WeekAt CW CP Own H a wk an ap as ∧
  SqL K H ln (nv [s, t, b, m, n]) ∧ SqL K H lb (nv l) ∧ l.length ≤ 1000 ∧ ∀ H', Same H H' → Q (.bl (Uw05.playOk wk ⟨l, s, t, b == 1, m, n⟩)) H'
theorem scIsPlay : FnScope ["week", "numbers", "brings", "set_up", "strike", "may_run", "least", "most"] ["week", "numbers", "brings"] (defScope sIsPlay) := ⟨rfl, rfl, rfl, by decide +kernel, rfl, by decide +kernel, by decide +kernel⟩
theorem ok_isPlay {f : Addr} {fd : FuncData} (F : Fun K "is_play" "is_play" sIsPlay f fd) (T : Txt K mg CW CP CD) (D1 : Has P w K mg base "are_brings" 2 ["brings"] (spAre K areB)) : FnOk P w K mg base CX0 3 f fd ["week", "numbers", "brings"] (spIsPlay CW CP K) := by
  refine F.ok scIsPlay (fun vs H Q E h => ?_) (fun cdv A outer s H vs Q E hr h => ?_)
  · obtain ⟨_, a, wk, an, ap, as, ln, lb, s, t, b, m, n, l, rfl, _⟩ := h
    rfl
  · obtain ⟨Own, a, wk, an, ap, as, ln, lb, s, t, b, m, n, l, rfl, W, hl, hb, hn, q⟩ := h
    refine ⟨_, pss_cons (ps_asg (pv 1) (pg_lst (n := 5) rfl (pgs_cons (pg_name (i := 3) scIsPlay.nd rfl (.inl rfl)) (pgs_cons (pg_name (i := 4) scIsPlay.nd rfl (.inl rfl)) (pgs_cons (pg_name (i := 5) scIsPlay.nd rfl (.inl rfl)) (pgs_cons (pg_name (i := 6) scIsPlay.nd rfl (.inl rfl)) (pgs_cons (pg_name (i := 7) scIsPlay.nd rfl (.inl rfl)) pgs_nil)))))))
      (pss_cons (ps_if (PW.pt (pw_or (pt_cmpR op_gt (pv 3) (pe_gint T.mostMoney rfl) (nomark _)) (pw_or (pt_cmpR op_gt (pv 4) (pe_gint T.mostMoney rfl) (nomark _)) (pw_or1 (pt_not (pt_val (pe_def D1 hr rfl (pa_cons (pv 2) pa_nil)))))))) (pss_one (ps_ret pe_bl)) pss_nil)
      (pss_one (ps_ret (pe_and (pe_cmpR op_le (pv 6) (pv 7) (nomark _)) (pe_one (pe_cmpR op_le (pv 7) (pe_callB call_len_seq (by rfl) T.len PySem.boot_len (pa_cons (pe_fld (pv 0) rfl) pa_nil)) (nomark _))))))), ?_⟩
    have hl2 : SqL K H ln [V.int (s : Int), V.int (t : Int), V.int (b : Int), V.int (m : Int), V.int (n : Int)] := hl
    refine ⟨_, rfl, ln, _, rfl, hl2, rfl, _, _, rfl, _, _, rfl, _, _, rfl, _, _, rfl, _, _, rfl, rfl, ?_⟩
    rw [playOk_eq] at q
    dsimp only at q
    refine ⟨_, rfl, _, _, rfl, rfl, _, rfl, ?_⟩
    by_cases c1 : s ≤ 100000
    rotate_left
    · rw [decide_eq_false c1] at q
      exact ifT (decide_eq_true (by omega)) (iteT (q H (Same.refl H)))
    refine ifF (decide_eq_false (by omega)) ⟨_, rfl, _, _, rfl, rfl, _, rfl, ?_⟩
    by_cases c2 : t ≤ 100000
    rotate_left
    · rw [decide_eq_true c1, decide_eq_false c2] at q
      exact ifT (decide_eq_true (by omega)) (iteT (q H (Same.refl H)))
    refine ifF (decide_eq_false (by omega)) ⟨_, rfl, lb, l, rfl, hb, hn, fun H1 s1 => ⟨_, rfl, ?_⟩⟩
    rw [decide_eq_true c1, decide_eq_true c2] at q
    cases c3 : areB l with
    | false =>
      rw [c3] at q
      exact iteT (q H1 s1)
    | true =>
      rw [c3] at q
      refine iteF ⟨_, rfl, _, rfl, _, _, rfl, rfl, _, rfl, ?_⟩
      by_cases c4 : m ≤ n
      rotate_left
      · rw [decide_eq_false c4] at q
        exact ifF (decide_eq_false (by omega)) (q H1 s1)
      obtain ⟨dw, hw⟩ := W.ins
      refine ifT (decide_eq_true (by omega)) ⟨_, rfl, _, rfl, a, CW, dw, _, _, rfl, s1 _ _ hw, T.clW, T.nNights, weekF_nights an ap, an, _, rfl, .inl (SqL.of (s1 _ _ W.nts)), _, _, rfl, rfl, ?_⟩
      rw [nv_length]
      have e : decide ((n : Int) ≤ (wk.nights.length : Int)) = decide (n ≤ wk.nights.length) := by
        rw [Bool.eq_iff_iff, decide_eq_true_eq, decide_eq_true_eq]
        omega
      rw [decide_eq_true c4, ← e] at q
      exact q H1 s1
/-! ### takings -/
abbrev sTakings : Stmt := top 20
def spTakings (CW CP : Addr) (K : PySem.W.Frag) : Sp := fun vs H Q _ => ∃ (Own : Addr → Prop) (a : Addr) (wk : Uw05.Week) (an ap : Addr) (as : List Addr) (l : Addr) (b : Uw05.Bill), vs = [.ref a, .ref l] ∧ WeekAt CW CP Own H a wk an ap as ∧
  SqL K H l (nv b) ∧ Fit wk b ∧ ∀ H' p, Same H H' → H p = Option.none → H' p = some (.lst (nv (takeL wk b))) → Q (.ref p) H'
theorem scTakings : FnScope ["week", "bill", "night"] ["week", "bill"] (defScope sTakings) := ⟨rfl, rfl, rfl, by decide +kernel, rfl, by decide +kernel, by decide +kernel⟩
theorem cut_to {xs : List V} {i : Nat} (h : i ≤ xs.length) : cutV xs none (some (i : Int)) = xs.take i := by
  unfold cutV
  rw [HT.sIx_none, HT.sIx_nat, Nat.min_eq_left h]
  rfl
theorem nv_take (l : List Nat) (i : Nat) : (nv l).take i = nv (l.take i) := by
  unfold nv ins
  rw [List.map_take, List.map_take]
theorem fit_get {wk : Uw05.Week} {b : Uw05.Bill} (h : Fit wk b) {i : Nat} (hi : i < b.length) : b.getD i 0 ≤ wk.plays.length := by
  rw [List.getD_eq_getElem?_getD, List.getElem?_eq_getElem hi]
  exact h.le _ (List.getElem_mem hi)
theorem ok_takings {f : Addr} {fd : FuncData} (F : Fun K "takings" "takings" sTakings f fd) (T : Txt K mg CW CP CD) (D1 : Has P w K mg base "taken" 2 ["week", "night", "number", "before"] (spTaken CW CP)) : FnOk P w K mg base CX0 3 f fd ["week", "bill"] (spTakings CW CP K) := by
  refine F.ok scTakings (fun vs H Q E h => ?_) (fun cdv A outer s H vs Q E hr h => ?_)
  · obtain ⟨_, a, wk, an, ap, as, l, b, rfl, _⟩ := h
    rfl
  · obtain ⟨Own, a, wk, an, ap, as, l, b, rfl, W, hl, hF, q⟩ := h
    refine ⟨_, pss_one (ps_ret (pe_lc (own := [("night", 2)]) (g := gName 2) (tt := tYes)
      (te := tCall (spTaken CW CP) [] E0 (tCons (tVar 0) (tCons (tVar 2) (tCons (tOp (rIxL K) (tVar 1) (tVar 2)) (tCons (tBM K "list" (rCntI K) (tSl (rSlL K) (tVar 1) tNoPart (tPart (tVar 2))) (tCons (tOp (rIxL K) (tVar 1) (tVar 2)) tNil)) tNil)))))
      (by rfl) scTakings.nd (pi_range1 (by rfl) T.range (pa_cons (pe_callB call_len_seq (by rfl) T.len PySem.boot_len (pa_cons (pv 1) pa_nil)) pa_nil))
      (blkOk_by (own := [("night", 2)]) (N := ["week", "bill", "night"]) (sc := defScope sTakings) (by decide +kernel))
      (fun _ _ _ _ _ => pg_name (i := 2) scTakings.nd rfl (Or.inl rfl)) (fun _ _ _ _ _ => pts_nil)
      (fun _ _ _ _ _ => by exact pe_def D1 hr rfl (pa_cons (pv 0) (pa_cons (pv 2) (pa_cons (pe_ix ix_list (pv 1) (pv 2) (fun _ _ => rfl)) (pa_cons (pe_bm PySem.F.plainAttrs_list PySem.F.slot_list_count PySem.F.type_list_count mt_lcount (pe_slice sl_list (pv 1) po_none (po_some (pv 2))) (pa_cons (pe_ix ix_list (pv 1) (pv 2) (fun _ _ => rfl)) pa_nil)) pa_nil))))))), ?_⟩
    have hb6 : b.length ≤ 6 := Nat.le_trans hF.len W.ok.nl
    refine ⟨_, rfl, l, _, rfl, .inl hl, _, rfl, by omega, (by rw [nv_length]; omega), fun D hD => ?_⟩
    refine lc_range (lo := 0) (fun i H' => Same H H' ∧ H' D = some (.lst (nv ((List.range i).map (wk.takes b))))) ⟨same_new hD, upd_same⟩ ?_ ?_
    · rintro i H' hi ⟨s1, hacc⟩
      have hib : i < b.length := by
        rw [nv_length] at hi
        omega
      have W1 := W.same s1
      have hl1 : SqL K H' l (nv b) := s1.seq hl
      refine ⟨rfl, ?_⟩
      unfold tYes
      refine iteT ?_
      refine ⟨_, rfl, _, rfl, _, rfl, _, rfl, l, _, _, _, rfl, rfl, hl1, at_of (j := i) (by omega) (nv_atD hib), ?_⟩
      refine ⟨_, rfl, _, rfl, _, rfl, l, _, rfl, hl1, fun p hp => ?_⟩
      have s2 := same_new (o := .lst (cutV (nv b) none (some (0 + (i : Int))))) hp
      refine ⟨.inl ⟨rfl, _, SqL.of upd_same⟩, _, rfl, _, rfl, l, _, _, _, rfl, rfl, s2.seq hl1, at_of (j := i) (by omega) (nv_atD hib), ?_⟩
      have ec : cutV (nv b) none (some (0 + (i : Int))) = (ins (b.take i)).map V.int := by
        rw [Int.zero_add, cut_to (by rw [nv_length]; omega), nv_take]
      refine ⟨p, ins (b.take i), ((b.getD i 0 : Nat) : Int), rfl, rfl, SqL.of (by rw [← ec]; exact upd_same), ?_⟩
      rw [times_count]
      refine ⟨Own, a, wk, an, ap, as, i, b.getD i 0, Uw05.times (b.take i) (b.getD i 0), ?_, W1.same s2, Nat.lt_of_lt_of_le hib hF.len, fit_get hF hib, ?_⟩
      · show [V.ref a, V.int (0 + (i : Int)), V.int ((b.getD i 0 : Nat) : Int), V.int ((Uw05.times (b.take i) (b.getD i 0) : Nat) : Int)] = _
        rw [Int.zero_add]
      · refine ⟨_, s2 _ _ hacc, ?_, fun c o e => ?_, ?_⟩
        · rw [nv_length, List.length_map, List.length_range]
          exact size_1000 (by omega)
        · rw [upd_ne (ne_of_none e hD)]
          exact s2 _ _ (s1 _ _ e)
        · rw [upd_same, List.range_succ, List.map_append, nv_append]
          rfl
    · rintro H' ⟨s1, hacc⟩
      refine q H' D s1 hD ?_
      rw [hacc, nv_length]
      rfl
end
end Wp

namespace Wp
open PySem PySem.Spec PyProof.Rows L2
open PySem.W (Codec)
section
variable {P : Program} {w : World} {K : PySem.W.Frag} {mg : Str → Option Value} {base : Heap} {CW CP CD : Addr}
/-! ### work_of -/
abbrev sWork : Stmt := top 23
def spWork (CW CP : Addr) (K : PySem.W.Frag) : Sp := fun vs H Q _ => ∃ (Own : Addr → Prop) (a : Addr) (wk : Uw05.Week) (an ap : Addr) (as : List Addr) (l : Addr) (b : Uw05.Bill), vs = [.ref a, .ref l] ∧ WeekAt CW CP Own H a wk an ap as ∧
  SqL K H l (nv b) ∧ Fit wk b ∧ ∀ H', Same H H' → Q (.int ((wk.works b : Nat) : Int)) H'
theorem scWork : FnScope ["week", "bill", "found", "around", "k"] ["week", "bill"] (defScope sWork) := ⟨rfl, rfl, rfl, by decide +kernel, rfl, by decide +kernel, by decide +kernel⟩
theorem around_le {wk : Uw05.Week} {b : Uw05.Bill} (h : Fit wk b) (i : Nat) : (around b).getD i 0 ≤ wk.plays.length := by
  rw [List.getD_eq_getElem?_getD]
  cases e : (around b)[i]? with
  | none => exact Nat.zero_le _
  | some x =>
    have hx := List.mem_of_getElem? e
    rcases List.mem_cons.mp hx with rfl | hx
    · exact Nat.zero_le _
    · rcases List.mem_append.mp hx with hx | hx
      · exact h.le _ hx
      · rw [List.mem_singleton.mp hx]
        exact Nat.zero_le _
theorem ok_work {f : Addr} {fd : FuncData} (F : Fun K "work_of" "work_of" sWork f fd) (T : Txt K mg CW CP CD) (D1 : Has P w K mg base "set_up_cost" 2 ["week", "number", "before"] (spSetUp CW CP)) (D2 : Has P w K mg base "strike_cost" 2 ["week", "number", "behind"] (spStrike CW CP)) :
    FnOk P w K mg base CX0 3 f fd ["week", "bill"] (spWork CW CP K) := by
  refine F.ok scWork (fun vs H Q E h => ?_) (fun cdv A outer s H vs Q E hr h => ?_)
  · obtain ⟨_, a, wk, an, ap, as, l, b, rfl, _⟩ := h
    rfl
  · obtain ⟨Own, a, wk, an, ap, as, l, b, rfl, W, hl, hF, q⟩ := h
    refine ⟨_, pss_cons (ps_set (i := 2) scWork.nd rfl (.inl rfl) pe_int)
      (pss_cons (ps_set (i := 3) scWork.nd rfl (.inl rfl) (pe_op op_cat (pe_op op_cat (pe_lst (pa_cons (pe_gint T.dark rfl) pa_nil)) (pe_callTy call_list_of (by rfl) T.list (by decide +kernel) (pa_cons (pv 1) pa_nil))) (pe_lst (pa_cons (pe_gint T.dark rfl) pa_nil))))
      (pss_cons (ps_for PassesOwn.never rfl (pi_range2 (by rfl) T.range (pa_cons pe_int (pa_cons (pe_op op_sub (pe_callB call_len_seq (by rfl) T.len PySem.boot_len (pa_cons (pv 3) pa_nil)) pe_int) pa_nil))) (pg_name (i := 4) scWork.nd rfl (.inl rfl))
        (pss_one (ps_set (i := 2) scWork.nd rfl (.inl rfl) (pe_op op_add (pe_op op_add (pv 2)
          (pe_def D1 hr rfl (pa_cons (pv 0) (pa_cons (pe_ix ix_list (pv 3) (pv 4) (fun _ _ => rfl)) (pa_cons (pe_ix ix_list (pv 3) (pe_op op_sub (pv 4) pe_int) (fun _ _ => rfl)) pa_nil)))))
          (pe_def D2 hr rfl (pa_cons (pv 0) (pa_cons (pe_ix ix_list (pv 3) (pv 4) (fun _ _ => rfl)) (pa_cons (pe_ix ix_list (pv 3) (pe_op op_add (pv 4) pe_int) (fun _ _ => rfl)) pa_nil))))))))
      (pss_one (ps_ret (pv 2))))), ?_⟩
    have hb6 : b.length ≤ 6 := Nat.le_trans hF.len W.ok.nl
    refine ⟨(by show 1 ≤ sizeLine; decide), fun p1 h1 => ?_⟩
    have s1 := same_new (o := .lst [V.int 0]) h1
    refine ⟨_, rfl, l, _, rfl, .inl (s1.seq hl), fun p2 h2 => ?_⟩
    have s2 := same_new (o := .lst (nv b)) h2
    refine ⟨p1, p2, _, _, rfl, rfl, s2 _ _ upd_same, upd_same, (by rw [nv_length]; exact Nat.le_of_lt (size_1000 (by show 1 + b.length ≤ 1000; omega))), fun p3 h3 => ?_⟩
    have s3 := same_new (o := .lst ([V.int 0] ++ nv b)) h3
    refine ⟨(by show 1 ≤ sizeLine; decide), fun p4 h4 => ?_⟩
    have s4 := same_new (o := .lst [V.int 0]) h4
    refine ⟨p3, p4, _, _, rfl, rfl, s4 _ _ upd_same, upd_same, (by rw [List.length_append, nv_length]; exact Nat.le_of_lt (size_1000 (by show 1 + b.length + 1 ≤ 1000; omega))), fun p5 h5 => ?_⟩
    have s5 := same_new (o := .lst ([V.int 0] ++ nv b ++ [V.int 0])) h5
    have hs : Same H _ := (((s1.trans s2).trans s3).trans s4).trans s5
    have ea : [V.int 0] ++ nv b ++ [V.int 0] = nv (around b) := by
      unfold around
      show V.int 0 :: (nv b ++ [V.int 0]) = nv (0 :: (b ++ [0]))
      show _ = V.int 0 :: nv (b ++ [0])
      rw [nv_append]
      rfl
    rw [ea] at hs ⊢
    generalize hH5 : upd _ p5 (.lst (nv (around b))) = H5 at hs ⊢
    have h5s : H5 p5 = some (.lst (nv (around b))) := by
      rw [← hH5]
      exact upd_same
    have ha := around_length b
    refine ⟨_, rfl, p5, _, rfl, .inl (SqL.of h5s), _, _, rfl, rfl, _, _, rfl, ⟨by decide, by decide, by rw [nv_length]; omega, by rw [nv_length]; omega⟩, ?_⟩
    refine for_range (lo := 1) (n := (((nv (around b)).length : Int) - 1 - 1).toNat) (fun i σ H' => ∃ v : Option V, σ = [some (.ref a), some (.ref l), some (.int ((workUp wk b i : Nat) : Int)), some (.ref p5), v] ∧ Same H5 H') ⟨none, rfl, Same.refl _⟩ ?_ ?_
    · rintro i σ H' hi ⟨v, rfl, sH⟩
      have hib : i < b.length := by
        rw [nv_length] at hi
        omega
      have hl5 : SqL K H' p5 (nv (around b)) := sH.seq (SqL.of h5s)
      have W5 := W.same (hs.trans sH)
      refine ⟨_, rfl, _, rfl, _, rfl, _, rfl, p5, _, _, _, rfl, rfl, hl5, at_of (j := i + 1) (by omega) (nv_atD (by omega)), _, rfl, _, rfl, _, _, rfl, rfl, p5, _, _, _, rfl, rfl, hl5, at_of (j := i) (by omega) (nv_atD (by omega)), ?_⟩
      refine ⟨Own, a, wk, an, ap, as, _, _, rfl, W5, around_le hF _, fun H6 s6 => ⟨_, _, rfl, rfl, ?_⟩⟩
      refine ⟨_, rfl, _, rfl, _, rfl, p5, _, _, _, rfl, rfl, s6.seq hl5, at_of (j := i + 1) (by omega) (nv_atD (by omega)), _, rfl, _, rfl, _, _, rfl, rfl, p5, _, _, _, rfl, rfl, s6.seq hl5, at_of (j := i + 2) (by omega) (nv_atD (by omega)), ?_⟩
      refine ⟨Own, a, wk, an, ap, as, _, _, rfl, W5.same s6, around_le hF _, fun H7 s7 => ⟨_, _, rfl, rfl, ?_⟩⟩
      refine ⟨some (.int (1 + (i : Int))), ?_, (sH.trans s6).trans s7⟩
      have e : ((workUp wk b (i + 1) : Nat) : Int) = ((workUp wk b i : Nat) : Int) + ((setUp wk ((around b).getD (i + 1) 0) ((around b).getD i 0) : Nat) : Int) + ((strikeC wk ((around b).getD (i + 1) 0) ((around b).getD (i + 2) 0) : Nat) : Int) := by
        show ((workUp wk b i + _ + _ : Nat) : Int) = _
        omega
      rw [e]
      rfl
    · rintro σ H' ⟨v, rfl, sH⟩
      refine ⟨_, rfl, ?_⟩
      have e : (((nv (around b)).length : Int) - 1 - 1).toNat = b.length := by
        rw [nv_length]
        omega
      rw [e, works_eq]
      exact q H' (hs.trans sH)
/-! ### left_of -/
abbrev sLeft : Stmt := top 24
def spLeft (CW CP : Addr) (K : PySem.W.Frag) : Sp := fun vs H Q _ => ∃ (Own : Addr → Prop) (a : Addr) (wk : Uw05.Week) (an ap : Addr) (as : List Addr) (l : Addr) (b : Uw05.Bill), vs = [.ref a, .ref l] ∧ WeekAt CW CP Own H a wk an ap as ∧
  SqL K H l (nv b) ∧ Fit wk b ∧ ∀ H', Same H H' → Q (.int (wk.left b)) H'
theorem scLeft : FnScope ["week", "bill"] ["week", "bill"] (defScope sLeft) := ⟨rfl, rfl, rfl, by decide +kernel, rfl, by decide +kernel, by decide +kernel⟩
theorem ok_left {f : Addr} {fd : FuncData} (F : Fun K "left_of" "left_of" sLeft f fd) (T : Txt K mg CW CP CD) (D1 : Has P w K mg base "takings" 3 ["week", "bill"] (spTakings CW CP K)) (D2 : Has P w K mg base "work_of" 3 ["week", "bill"] (spWork CW CP K)) :
    FnOk P w K mg base CX0 4 f fd ["week", "bill"] (spLeft CW CP K) := by
  refine F.ok scLeft (fun vs H Q E h => ?_) (fun cdv A outer s H vs Q E hr h => ?_)
  · obtain ⟨_, a, wk, an, ap, as, l, b, rfl, _⟩ := h
    rfl
  · obtain ⟨Own, a, wk, an, ap, as, l, b, rfl, W, hl, hF, q⟩ := h
    refine ⟨_, pss_one (ps_ret (pe_op op_sub (pe_callB (cr_sum rfl) (by rfl) T.sum (by decide +kernel) (pa_cons (pe_def D1 hr rfl (pa_cons (pv 0) (pa_cons (pv 1) pa_nil))) pa_nil)) (pe_def D2 hr rfl (pa_cons (pv 0) (pa_cons (pv 1) pa_nil))))), ?_⟩
    refine ⟨_, rfl, _, rfl, Own, a, wk, an, ap, as, l, b, rfl, W, hl, hF, fun H1 p s1 hp h1 => ?_⟩
    refine ⟨p, ins (takeL wk b), rfl, SqL.of h1, _, rfl, _, rfl, Own, a, wk, an, ap, as, l, b, rfl, W.same s1, s1.seq hl, hF, fun H2 s2 => ⟨_, _, rfl, rfl, ?_⟩⟩
    have e := q H2 (s1.trans s2)
    rw [left_eq] at e
    exact e
/-! ### wrong_with -/
abbrev sWrong : Stmt := top 26
def spWrong (CW CP : Addr) (K : PySem.W.Frag) : Sp := fun vs H Q _ => ∃ (Own : Addr → Prop) (a : Addr) (wk : Uw05.Week) (an ap : Addr) (as : List Addr) (l : Addr) (b : Uw05.Bill), vs = [.ref a, .ref l] ∧ WeekAt CW CP Own H a wk an ap as ∧
  SqL K H l (nv b) ∧ Fit wk b ∧ ∀ H' p, Same H H' → H p = Option.none → H' p = some (.lst (nv (wrongL wk b))) → Q (.ref p) H'
theorem scWrong : FnScope ["week", "bill", "night", "number", "often"] ["week", "bill"] (defScope sWrong) := ⟨rfl, rfl, rfl, by decide +kernel, rfl, by decide +kernel, by decide +kernel⟩
theorem ok_wrong {f : Addr} {fd : FuncData} (F : Fun K "wrong_with" "wrong_with" sWrong f fd) (T : Txt K mg CW CP CD) (D1 : Has P w K mg base "does_run" 2 ["week", "bill", "night"] (spRun CW CP K)) (D2 : Has P w K mg base "play_of" 1 ["week", "number"] (spPlayOf CW CP)) :
    FnOk P w K mg base CX0 3 f fd ["week", "bill"] (spWrong CW CP K) := by
  refine F.ok scWrong (fun vs H Q E h => ?_) (fun cdv A outer s H vs Q E hr h => ?_)
  · obtain ⟨_, a, wk, an, ap, as, l, b, rfl, _⟩ := h
    rfl
  · obtain ⟨Own, a, wk, an, ap, as, l, b, rfl, W, hl, hF, q⟩ := h
    have hr1 : Room 1 _ := hr.mono (by decide)
    refine ⟨_, pss_cons (ps_for PassesOwn.never rfl (pi_range2 (by rfl) T.range (pa_cons pe_int (pa_cons (pe_callB call_len_seq (by rfl) T.len PySem.boot_len (pa_cons (pv 1) pa_nil)) pa_nil))) (pg_name (i := 2) scWrong.nd rfl (.inl rfl))
        (pss_one (ps_if (pt_val (pe_def D1 hr rfl (pa_cons (pv 0) (pa_cons (pv 1) (pa_cons (pv 2) pa_nil))))) (pss_one (ps_ret (pe_lst (pa_cons (pe_gint T.runs rfl) (pa_cons (pv 2) pa_nil))))) pss_nil)))
      (pss_cons (ps_for PassesOwn.never rfl (pi_range2 (by rfl) T.range (pa_cons pe_int (pa_cons (pe_op op_add (pe_callB call_len_seq (by rfl) T.len PySem.boot_len (pa_cons (pe_fld (pv 0) rfl) pa_nil)) pe_int) pa_nil))) (pg_name (i := 3) scWrong.nd rfl (.inl rfl))
        (pss_cons (ps_set (i := 4) scWrong.nd rfl (.inl rfl) (pe_bm PySem.F.plainAttrs_list PySem.F.slot_list_count PySem.F.type_list_count mt_lcount (pv 1) (pa_cons (pv 3) pa_nil)))
        (pss_cons (ps_if (pt_cmpR op_lt (pv 4) (pe_fld (pe_def D2 hr1 rfl (pa_cons (pv 0) (pa_cons (pv 3) pa_nil))) rfl) (nomark _)) (pss_one (ps_ret (pe_lst (pa_cons (pe_gint T.seldom rfl) (pa_cons (pv 3) pa_nil))))) pss_nil)
        (pss_one (ps_if (pt_cmpR op_gt (pv 4) (pe_fld (pe_def D2 hr1 rfl (pa_cons (pv 0) (pa_cons (pv 3) pa_nil))) rfl) (nomark _)) (pss_one (ps_ret (pe_lst (pa_cons (pe_gint T.often rfl) (pa_cons (pv 3) pa_nil))))) pss_nil)))))
      (pss_one (ps_ret (pe_lst pa_nil)))), ?_⟩
    have hb6 : b.length ≤ 6 := Nat.le_trans hF.len W.ok.nl
    have hp4 := W.ok.pl
    obtain ⟨dw, hw⟩ := W.ins
    refine ⟨_, rfl, l, _, rfl, .inl hl, _, _, rfl, ⟨by decide, by decide, by rw [nv_length]; omega, by rw [nv_length]; omega⟩, ?_⟩
    refine for_range (lo := 1) (n := (((nv b).length : Int) - 1).toNat) (fun i σ H' => ∃ v : Option V, σ = [some (.ref a), some (.ref l), v, none, none] ∧ H' = H ∧ ∀ j, j ≤ i → runAt wk b j = false) ⟨none, rfl, rfl, fun j hj => ?_⟩ ?_ ?_
    · have : j = 0 := by omega
      subst this
      rfl
    · rintro i σ H' hi ⟨v, rfl, rfl, hno⟩
      have hib : i + 1 < b.length := by
        rw [nv_length] at hi
        omega
      have ei : (1 + (i : Int)) = ((i + 1 : Nat) : Int) := by omega
      rw [ei]
      refine ⟨_, rfl, _, rfl, _, rfl, Own, a, wk, an, ap, as, l, b, i + 1, rfl, W, hl, by omega, hib, fit_get hF hib, _, rfl, ?_⟩
      cases hrun : runAt wk b (i + 1) with
      | true =>
        refine iteT ⟨_, rfl, (by show 2 ≤ sizeLine; decide), fun p hp => ?_⟩
        refine q _ p (same_new hp) hp ?_
        rw [upd_same, wrong_runs hib hrun (fun j hj => hno j (by omega))]
        rfl
      | false =>
        refine iteF ⟨_, rfl, rfl, fun j hj => ?_⟩
        by_cases c : j = i + 1
        · rw [c]
          exact hrun
        · exact hno j (by omega)
    · rintro σ H' ⟨v, rfl, rfl, hno⟩
      have hno2 : ∀ i, i < b.length → runAt wk b i = false := fun i hi => hno i (by rw [nv_length]; omega)
      have elen : (((as.map V.ref).length : Int) + 1 - 1).toNat = wk.plays.length := by
        rw [List.length_map, W.len]
        omega
      have elen2 : (as.map V.ref).length = wk.plays.length := by
        rw [List.length_map, W.len]
      refine ⟨_, rfl, a, CW, dw, _, _, rfl, hw, T.clW, T.nPlays, weekF_plays an ap, ap, _, rfl, .inl (SqL.of W.pls), _, _, rfl, rfl, _, _, rfl, ⟨by decide, by decide, by omega, by omega⟩, ?_⟩
      refine for_range (lo := 1) (n := (((as.map V.ref).length : Int) + 1 - 1).toNat) (fun i σ H1 => ∃ v3 v4 : Option V, σ = [some (.ref a), some (.ref l), v, v3, v4] ∧ H1 = H' ∧ ∀ j q, j < i → wk.plays[j]? = some q → wf b (q, j) = none) ⟨none, none, rfl, rfl, fun j q hj => by omega⟩ ?_ ?_
      · rintro i σ H1 hi ⟨v3, v4, rfl, rfl, hnf⟩
        rw [elen] at hi
        have ei : (1 + (i : Int)) = ((i + 1 : Nat) : Int) := by omega
        rw [ei]
        refine ⟨_, rfl, .inl ⟨rfl, _, hl⟩, _, rfl, l, ins b, _, rfl, rfl, hl, ?_⟩
        rw [times_count]
        refine ⟨_, rfl, _, rfl, _, rfl, Own, a, wk, an, ap, as, i + 1, rfl, W, by omega, by omega, fun cc pp ab hpp hp2 hP => ?_⟩
        obtain ⟨⟨dx, hx⟩, hbr⟩ := hP
        have hpp2 : wk.plays[i]? = some pp := hpp
        have hwf : wf b (pp, i) = if Uw05.times b (i + 1) < pp.least then some (2, i + 1) else if pp.most < Uw05.times b (i + 1) then some (3, i + 1) else none := rfl
        refine ⟨cc, CP, dx, _, _, rfl, hx, T.clP, T.nLeast, playF_least pp ab, _, _, rfl, rfl, _, rfl, ?_⟩
        by_cases c1 : Uw05.times b (i + 1) < pp.least
        · rw [if_pos c1] at hwf
          refine ifT (decide_eq_true (by omega)) ⟨_, rfl, (by show 2 ≤ sizeLine; decide), fun p hp => ?_⟩
          refine q _ p (same_new hp) hp ?_
          rw [upd_same, wrong_often hno2 hpp2 hwf (fun j q hj hq => hnf j q hj hq)]
          rfl
        rw [if_neg c1] at hwf
        refine ifF (decide_eq_false (by omega)) ?_
        refine ⟨_, rfl, _, rfl, _, rfl, Own, a, wk, an, ap, as, i + 1, rfl, W, by omega, by omega, fun cc2 pp' ab2 hpp' hp2' hP2 => ?_⟩
        obtain ⟨⟨dx2, hx2⟩, hbr2⟩ := hP2
        have epp : pp' = pp := Option.some.inj (hp2'.symm.trans hp2)
        subst epp
        refine ⟨cc2, CP, dx2, _, _, rfl, hx2, T.clP, T.nMost, playF_most pp' ab2, _, _, rfl, rfl, _, rfl, ?_⟩
        by_cases c2 : pp'.most < Uw05.times b (i + 1)
        · rw [if_pos c2] at hwf
          refine ifT (decide_eq_true (by omega)) ⟨_, rfl, (by show 2 ≤ sizeLine; decide), fun p hp => ?_⟩
          refine q _ p (same_new hp) hp ?_
          rw [upd_same, wrong_often hno2 hpp2 hwf (fun j q hj hq => hnf j q hj hq)]
          rfl
        rw [if_neg c2] at hwf
        refine ifF (decide_eq_false (by omega)) ?_
        refine ⟨_, _, rfl, rfl, fun j q' hj hq => ?_⟩
        by_cases c : j = i
        · subst c
          have : q' = pp' := Option.some.inj (hq.symm.trans hpp2)
          rw [this]
          exact hwf
        · exact hnf j q' (by omega) hq
      · rintro σ H1 ⟨v3, v4, rfl, rfl, hnf⟩
        refine ⟨Nat.zero_le _, fun p hp => ?_⟩
        refine q _ p (same_new hp) hp ?_
        rw [upd_same, wrong_none hno2 (fun j q' hq => hnf j q' ?_ hq)]
        · rfl
        · rw [elen]
          exact (List.getElem?_eq_some_iff.mp hq).1
end
end Wp

namespace Wp
open PySem PySem.Spec PyProof.Rows L2
open PySem.W (Codec)
/-! ### lists of bills -/
theorem BillsAt.keep {H H' : Hp} {a : Addr} {bs : List Uw05.Bill} (h : BillsAt H a bs) (s : Same H H') : BillsAt H' a bs := by
  obtain ⟨as, h1, h2, h3⟩ := h
  refine ⟨as, s _ _ h1, h2, fun j c b hc hb => ?_⟩
  obtain ⟨h4, h5⟩ := h3 j c b hc hb
  exact ⟨s _ _ h4, h5⟩
theorem BillsAt.nil {H : Hp} {a : Addr} (h : H a = some (.lst [])) : BillsAt H a [] := ⟨[], h, rfl, fun j c b hc _ => by simp at hc⟩
/-- one bill more -/
theorem BillsAt.more {H H' : Hp} {a c : Addr} {bs : List Uw05.Bill} {b : Uw05.Bill} (h : BillsAt H a bs) (hc : H' c = some (.lst (nv b))) (hca : c ≠ a) (kp : ∀ q o, H q = some o → q ≠ a → H' q = some o)
    (ha : ∀ xs, H a = some (.lst xs) → H' a = some (.lst (xs ++ [V.ref c]))) : BillsAt H' a (bs ++ [b]) := by
  obtain ⟨as, h1, h2, h3⟩ := h
  refine ⟨as ++ [c], ?_, by simp [h2], fun j c' b' hc' hb' => ?_⟩
  · rw [ha _ h1, List.map_append]
    rfl
  · by_cases hj : j < as.length
    · rw [List.getElem?_append_left hj] at hc'
      rw [List.getElem?_append_left (by omega)] at hb'
      obtain ⟨h4, h5⟩ := h3 j c' b' hc' hb'
      exact ⟨kp _ _ h4 h5, h5⟩
    · by_cases hj2 : j = as.length
      · subst hj2
        rw [List.getElem?_append_right (Nat.le_refl _), Nat.sub_self] at hc'
        rw [h2, List.getElem?_append_right (Nat.le_refl _), Nat.sub_self] at hb'
        have e1 : c = c' := Option.some.inj hc'
        have e2 : b = b' := Option.some.inj hb'
        subst e1 e2
        exact ⟨hc, hca⟩
      · rw [List.getElem?_eq_none (by rw [List.length_append, List.length_singleton]; omega)] at hc'
        cases hc'
theorem BillsAt.len {H : Hp} {a : Addr} {bs : List Uw05.Bill} (h : BillsAt H a bs) : ∃ xs, H a = some (.lst xs) ∧ xs.length = bs.length := by
  obtain ⟨as, h1, h2, _⟩ := h
  exact ⟨_, h1, by rw [List.length_map, h2]⟩
def dBills (bs : List Uw05.Bill) : List PyData := bs.map fun b => .list ((ins b).map PyData.int)
theorem dpAll_bills {K : PySem.W.Frag} {H : Hp} : ∀ {as : List Addr} {bs : List Uw05.Bill}, as.length = bs.length → (∀ (j : Nat) (c : Addr) (b : Uw05.Bill), as[j]? = some c → bs[j]? = some b → H c = some (.lst (nv b))) → DpAll K H (as.map V.ref) (dBills bs)
  | [], [], _, _ => .nil
  | [], _ :: _, h, _ => by cases h
  | _ :: _, [], h, _ => by cases h
  | c :: as, b :: bs, h, hh => .cons (dp_ints (SqL.of (hh 0 c b rfl rfl))) (dpAll_bills (by simpa using h) fun j c' b' h1 h2 => hh (j + 1) c' b' h1 h2)
theorem dp_bills {K : PySem.W.Frag} {H : Hp} {a : Addr} {bs : List Uw05.Bill} (h : BillsAt H a bs) : Dp K H (.ref a) (.list (dBills bs)) := by
  obtain ⟨as, h1, h2, h3⟩ := h
  exact .lst (SqL.of h1) (dpAll_bills h2 fun j c b hc hb => (h3 j c b hc hb).1)
theorem canLay_ints (ns : List Int) : PyData.canLayAll0 (ns.map PyData.int) = true := by
  induction ns with
  | nil => simp [PyData.canLayAll0]
  | cons n ns ih => simp only [List.map_cons, PyData.canLayAll0, PyData.canLay0, ih, Bool.and_self]
theorem depth_ints (ns : List Int) : PyData.depthAll (ns.map PyData.int) ≤ 1 := by
  induction ns with
  | nil => simp [PyData.depthAll]
  | cons n ns ih =>
    simp only [List.map_cons, PyData.depthAll, PyData.depth]
    omega
theorem canLay_bills (bs : List Uw05.Bill) : PyData.canLayAll0 (dBills bs) = true := by
  unfold dBills
  induction bs with
  | nil => simp [PyData.canLayAll0]
  | cons n ns ih => simp only [List.map_cons, PyData.canLayAll0, PyData.canLay0, canLay_ints, ih, Bool.and_self]
theorem depth_bills (bs : List Uw05.Bill) : PyData.depthAll (dBills bs) ≤ 2 := by
  unfold dBills
  induction bs with
  | nil => simp [PyData.depthAll]
  | cons n ns ih =>
    have := depth_ints (ins n)
    simp only [List.map_cons, PyData.depthAll, PyData.depth]
    omega
theorem sh_bills (bs : List Uw05.Bill) : SeqAt.shaped (.list (dBills bs)) = true := by
  unfold SeqAt.shaped
  have h := depth_bills bs
  simp only [PyData.canLay0, PyData.depth, canLay_bills, Bool.true_and]
  exact decide_eq_true (by omega)
theorem dBills_empty (bs : List Uw05.Bill) : (dBills bs).isEmpty = bs.isEmpty := by
  cases bs <;> rfl
section
variable {P : Program} {w : World} {K : PySem.W.Frag} {mg : Str → Option Value} {base : Heap} {CW CP CD : Addr}
/-! ### longer_bills -/
abbrev sLonger : Stmt := top 27
def spLonger (CW CP : Addr) (K : PySem.W.Frag) : Sp := fun vs H Q _ => ∃ (Own : Addr → Prop) (a : Addr) (wk : Uw05.Week) (an ap : Addr) (as : List Addr) (l : Addr) (bs : List Uw05.Bill), vs = [.ref a, .ref l] ∧ WeekAt CW CP Own H a wk an ap as ∧
  BillsAt H l bs ∧ bs.length ≤ 15625 ∧ (∀ b, b ∈ bs → b.length ≤ 100) ∧ ∀ H' p, Same H H' → H p = Option.none → BillsAt H' p (longer wk bs) → Q (.ref p) H'
theorem scLonger : FnScope ["week", "bills", "found", "bill", "number", "longer"] ["week", "bills"] (defScope sLonger) := ⟨rfl, rfl, rfl, by decide +kernel, rfl, by decide +kernel, by decide +kernel⟩
def part1 (wk : Uw05.Week) (b : Uw05.Bill) (n : Nat) : List Uw05.Bill := ((List.range n).map fun x => b ++ [x]).filter fun l => !runAt wk l b.length
theorem part1_more (wk : Uw05.Week) (b : Uw05.Bill) (n : Nat) : part1 wk b (n + 1) = if runAt wk (b ++ [n]) b.length = true then part1 wk b n else part1 wk b n ++ [b ++ [n]] := by
  unfold part1
  rw [List.range_succ, List.map_append, List.filter_append, List.map_singleton, List.filter_cons, List.filter_nil]
  cases runAt wk (b ++ [n]) b.length with
  | true => simp
  | false => simp
theorem part1_length (wk : Uw05.Week) (b : Uw05.Bill) (n : Nat) : (part1 wk b n).length ≤ n := by
  unfold part1
  refine Nat.le_trans (List.length_filter_le _ _) ?_
  simp
theorem longer_take {wk : Uw05.Week} {bs : List Uw05.Bill} {i : Nat} {b : Uw05.Bill} (h : bs[i]? = some b) : longer wk (bs.take (i + 1)) = longer wk (bs.take i) ++ longer1 wk b := by
  unfold longer
  rw [take_snoc h, List.flatMap_append, List.flatMap_singleton]
theorem getD_last (b : List Nat) (n : Nat) : (b ++ [n]).getD b.length 0 = n := by
  rw [List.getD_eq_getElem?_getD, List.getElem?_append_right (Nat.le_refl _), Nat.sub_self]
  rfl
theorem ok_longer {f : Addr} {fd : FuncData} (F : Fun K "longer_bills" "longer_bills" sLonger f fd) (T : Txt K mg CW CP CD) (D1 : Has P w K mg base "does_run" 2 ["week", "bill", "night"] (spRun CW CP K)) : FnOk P w K mg base CX0 3 f fd ["week", "bills"] (spLonger CW CP K) := by
  refine F.ok scLonger (fun vs H Q E h => ?_) (fun cdv A outer s H vs Q E hr h => ?_)
  · obtain ⟨_, a, wk, an, ap, as, l, b, rfl, _⟩ := h
    rfl
  · obtain ⟨Own, a, wk, an, ap, as, l, bs, rfl, W, hB, hn, hlen, q⟩ := h
    refine ⟨_, pss_cons (ps_set (i := 2) scLonger.nd rfl (.inl rfl) (pe_lst pa_nil))
      (pss_cons (ps_for PassesOwn.never rfl (pi_list (pv 1)) (pg_name (i := 3) scLonger.nd rfl (.inl rfl))
        (pss_one (ps_for PassesOwn.never rfl (pi_range1 (by rfl) T.range (pa_cons (pe_op op_add (pe_callB call_len_seq (by rfl) T.len PySem.boot_len (pa_cons (pe_fld (pv 0) rfl) pa_nil)) pe_int) pa_nil)) (pg_name (i := 4) scLonger.nd rfl (.inl rfl))
          (pss_cons (ps_set (i := 5) scLonger.nd rfl (.inl rfl) (pe_op op_cat (pv 3) (pe_lst (pa_cons (pv 4) pa_nil))))
          (pss_one (ps_if (PW.pt (pw_or (pt_cmpR op_eq (pe_callB call_len_seq (by rfl) T.len PySem.boot_len (pa_cons (pv 3) pa_nil)) pe_int (nomark _)) (pw_or1 (pt_not (pt_val (pe_def D1 hr rfl (pa_cons (pv 0) (pa_cons (pv 5) (pa_cons (pe_callB call_len_seq (by rfl) T.len PySem.boot_len (pa_cons (pv 3) pa_nil)) pa_nil)))))))))
            (pss_one (ps_expr (pe_bm PySem.F.plainAttrs_list PySem.F.slot_list_append PySem.F.type_list_append mt_append (pv 2) (pa_cons (pv 5) pa_nil)))) pss_nil))))))
      (pss_one (ps_ret (pv 2)))), ?_⟩
    have hp4 := W.ok.pl
    obtain ⟨bas, hb1, hb2, hb3⟩ := hB
    refine ⟨Nat.zero_le _, fun fnd hf => ?_⟩
    have s0 := same_new (o := .lst []) hf
    refine ⟨_, rfl, l, rfl, ⟨_, SqL.of (s0 _ _ hb1)⟩, for_list (K := K) (a := l) (xs := bas.map V.ref) (fun i σ H' => ∃ v3 v4 v5 : Option V, σ = [some (.ref a), some (.ref l), some (.ref fnd), v3, v4, v5] ∧ Same H H' ∧ BillsAt H' fnd (longer wk (bs.take i)))
      ⟨none, none, none, rfl, s0, BillsAt.nil upd_same⟩ (fun i σ H' _ ⟨_, _, _, _, s1, _⟩ => SqL.of (s1 _ _ hb1)) ?_ ?_⟩
    · rintro i y σ H1 hi ⟨v3, v4, v5, rfl, s1, hB1⟩
      obtain ⟨c, hc, rfl⟩ : ∃ c, bas[i]? = some c ∧ y = V.ref c := by
        rw [List.getElem?_map] at hi
        cases e : bas[i]? with
        | none => rw [e] at hi; cases hi
        | some c => rw [e] at hi; exact ⟨c, rfl, (Option.some.inj hi).symm⟩
      have hil : i < bs.length := by
        rw [← hb2]
        exact (List.getElem?_eq_some_iff.mp hc).1
      obtain ⟨b, hb⟩ : ∃ b, bs[i]? = some b := ⟨_, List.getElem?_eq_getElem hil⟩
      have hcb := (hb3 i c b hc hb).1
      have hbl := hlen b (List.mem_of_getElem? hb)
      have W1 := W.same s1
      obtain ⟨dw, hw⟩ := W1.ins
      have elen : (as.map V.ref).length = wk.plays.length := by rw [List.length_map, W.len]
      refine ⟨_, rfl, a, CW, dw, _, _, rfl, hw, T.clW, T.nPlays, weekF_plays an ap, ap, _, rfl, .inl (SqL.of W1.pls), _, _, rfl, rfl, _, rfl, by omega, by omega, ?_⟩
      refine for_range (lo := 0) (n := (((as.map V.ref).length : Int) + 1).toNat) (fun k σ H' => ∃ v4 v5 : Option V, σ = [some (.ref a), some (.ref l), some (.ref fnd), some (.ref c), v4, v5] ∧ Same H H' ∧ BillsAt H' fnd (longer wk (bs.take i) ++ part1 wk b k))
        ⟨v4, v5, rfl, s1, by rw [show part1 wk b 0 = [] from rfl, List.append_nil]; exact hB1⟩ ?_ ?_
      · rintro k σ H2 hk ⟨v4, v5, rfl, s2, hB2⟩
        have ek : (0 + (k : Int)) = (k : Int) := by omega
        rw [ek]
        have hkp : k ≤ wk.plays.length := by omega
        refine ⟨_, rfl, _, rfl, (by show 1 ≤ sizeLine; decide), fun p1 h1 => ?_⟩
        have t1 := same_new (o := .lst [V.int (k : Int)]) h1
        refine ⟨c, p1, _, _, rfl, rfl, t1 _ _ (s2 _ _ hcb), upd_same, (by rw [nv_length]; exact Nat.le_of_lt (size_1000 (by show b.length + 1 ≤ 1000; omega))), fun p2 h2 => ?_⟩
        have t2 := same_new (o := .lst (nv b ++ [V.int (k : Int)])) h2
        have en : nv b ++ [V.int (k : Int)] = nv (b ++ [k]) := by rw [nv_append]; rfl
        rw [en] at t2 ⊢
        have s3 := (s2.trans t1).trans t2
        have hB3 := (hB2.keep t1).keep t2
        have h2s : (upd (upd H2 p1 (.lst [V.int (k : Int)])) p2 (.lst (nv (b ++ [k])))) p2 = some (.lst (nv (b ++ [k]))) := upd_same
        have h2f : p2 ≠ fnd := fun z => by
          obtain ⟨xs, hxs, _⟩ := hB2.len
          have := t1 _ _ hxs
          rw [← z, h2] at this
          cases this
        generalize (upd (upd H2 p1 (.lst [V.int (k : Int)])) p2 (.lst (nv (b ++ [k])))) = H3 at s3 hB3 h2s t2 ⊢
        have hwish : ∀ H', Same H H' → BillsAt H' fnd (longer wk (bs.take i) ++ part1 wk b (k + 1)) → (∃ v4 v5 : Option V, [some (V.ref a), some (.ref l), some (.ref fnd), some (.ref c), some (.int (k : Int)), some (.ref p2)] = [some (.ref a), some (.ref l), some (.ref fnd), some (.ref c), v4, v5] ∧ Same H H' ∧ BillsAt H' fnd (longer wk (bs.take i) ++ part1 wk b (k + 1))) :=
          fun H' e1 e2 => ⟨_, _, rfl, e1, e2⟩
        have happ : runAt wk (b ++ [k]) b.length = false → ∃ xs, H3 fnd = some (.lst xs) ∧ xs.length < sizeLine ∧ (Same H (upd H3 fnd (.lst (xs ++ [V.ref p2]))) ∧ BillsAt (upd H3 fnd (.lst (xs ++ [V.ref p2]))) fnd (longer wk (bs.take i) ++ part1 wk b (k + 1))) := by
          intro hno
          obtain ⟨xs, hxs, hxl⟩ := hB3.len
          refine ⟨xs, hxs, ?_, fun z o e => ?_, ?_⟩
          · have l1 := longer_length hp4 (bs.take i)
            have l2 := part1_length wk b k
            rw [hxl, List.length_append]
            rw [List.length_take] at l1
            have l3 : 100000 < sizeLine := by decide
            omega
          · rw [upd_ne (ne_of_none e hf)]
            exact s3 _ _ e
          · rw [part1_more, if_neg (by rw [hno]; exact Bool.false_ne_true), ← List.append_assoc]
            refine hB3.more (c := p2) (by rw [upd_ne h2f]; exact h2s) h2f (fun z o e hz => by rw [upd_ne hz]; exact e) (fun xs' hx => ?_)
            have ex : xs' = xs := by
              rw [hxs] at hx
              injection hx with hx
              injection hx with hx
              exact hx.symm
            rw [ex]
            exact upd_same
        refine ⟨_, rfl, c, _, rfl, .inl (SqL.of (t2 _ _ (t1 _ _ (s2 _ _ hcb)))), rfl, _, rfl, ?_⟩
        rw [nv_length]
        by_cases c0 : b.length = 0
        · refine ifT (eqT (by omega)) (iteT ?_)
          have hno : runAt wk (b ++ [k]) b.length = false := by
            rw [c0]
            rfl
          obtain ⟨xs, hxs, hsz, hS, hBB⟩ := happ hno
          exact ⟨_, rfl, .inl ⟨rfl, _, SqL.of hxs⟩, _, rfl, fnd, xs, _, rfl, rfl, hxs, hsz, hwish _ hS hBB⟩
        · refine ifF (eqF (by omega)) ?_
          refine ⟨_, rfl, _, rfl, _, rfl, c, _, rfl, .inl (SqL.of (t2 _ _ (t1 _ _ (s2 _ _ hcb)))), ?_⟩
          rw [nv_length]
          refine ⟨Own, a, wk, an, ap, as, p2, b ++ [k], b.length, rfl, W.same s3, SqL.of h2s, by omega, by simp, (by rw [getD_last]; exact hkp), _, rfl, ?_⟩
          cases hrun : runAt wk (b ++ [k]) b.length with
          | true =>
            refine iteF ?_
            refine hwish _ s3 ?_
            rw [part1_more, if_pos hrun]
            exact hB3
          | false =>
            refine iteT ?_
            obtain ⟨xs, hxs, hsz, hS, hBB⟩ := happ hrun
            exact ⟨_, rfl, .inl ⟨rfl, _, SqL.of hxs⟩, _, rfl, fnd, xs, _, rfl, rfl, hxs, hsz, hwish _ hS hBB⟩
      · rintro σ H2 ⟨v4, v5, rfl, s2, hB2⟩
        refine ⟨_, _, _, rfl, s2, ?_⟩
        have e : (((as.map V.ref).length : Int) + 1).toNat = wk.plays.length + 1 := by omega
        rw [e] at hB2
        rw [longer_take hb]
        exact hB2
    · rintro σ H1 ⟨v3, v4, v5, rfl, s1, hB1⟩
      rw [List.length_map, hb2, List.take_length] at hB1
      exact ⟨_, rfl, q H1 fnd s1 hf hB1⟩
end
end Wp

namespace Wp
open PySem PySem.Spec PyProof.Rows L2
open PySem.W (Codec)
section
variable {P : Program} {w : World} {K : PySem.W.Frag} {mg : Str → Option Value} {base : Heap} {CW CP CD : Addr}
/-! ### right_bills -/
abbrev sRight : Stmt := top 28
def spRight (CW CP : Addr) (K : PySem.W.Frag) : Sp := fun vs H Q _ => ∃ (Own : Addr → Prop) (a : Addr) (wk : Uw05.Week) (an ap : Addr) (as : List Addr), vs = [.ref a] ∧ WeekAt CW CP Own H a wk an ap as ∧
  ∀ H' p, Same H H' → H p = Option.none → BillsAt H' p (rightL wk) → Q (.ref p) H'
theorem scRight : FnScope ["week", "bills", "night", "bill"] ["week"] (defScope sRight) := ⟨rfl, rfl, rfl, by decide +kernel, rfl, by decide +kernel, by decide +kernel⟩
theorem filter_more {α : Type} {p : α → Bool} {l : List α} {i : Nat} {x : α} (h : l[i]? = some x) : (l.take (i + 1)).filter p = if p x = true then (l.take i).filter p ++ [x] else (l.take i).filter p := by
  rw [take_snoc h, List.filter_append, List.filter_cons, List.filter_nil]
  cases p x with
  | true => rfl
  | false => simp
theorem ok_right {f : Addr} {fd : FuncData} (F : Fun K "right_bills" "right_bills" sRight f fd) (T : Txt K mg CW CP CD) (D1 : Has P w K mg base "longer_bills" 3 ["week", "bills"] (spLonger CW CP K)) (D2 : Has P w K mg base "wrong_with" 3 ["week", "bill"] (spWrong CW CP K)) :
    FnOk P w K mg base CX0 4 f fd ["week"] (spRight CW CP K) := by
  refine F.ok scRight (fun vs H Q E h => ?_) (fun cdv A outer s H vs Q E hr h => ?_)
  · obtain ⟨_, a, wk, an, ap, as, rfl, _⟩ := h
    rfl
  · obtain ⟨Own, a, wk, an, ap, as, rfl, W, q⟩ := h
    refine ⟨_, pss_cons (ps_set (i := 1) scRight.nd rfl (.inl rfl) (pe_lst (pa_cons (pe_lst pa_nil) pa_nil)))
      (pss_cons (ps_for PassesOwn.never rfl (pi_list (pe_fld (pv 0) rfl)) (pg_name (i := 2) scRight.nd rfl (.inl rfl))
        (pss_one (ps_set (i := 1) scRight.nd rfl (.inl rfl) (pe_def D1 hr rfl (pa_cons (pv 0) (pa_cons (pv 1) pa_nil))))))
      (pss_one (ps_ret (pe_lc (own := [("bill", 3)]) (g := gName 3) (tt := tTest (tOp (rEqD K) (tCall (spWrong CW CP K) [] E0 (tCons (tVar 0) (tCons (tVar 3) tNil))) (tLst tNil))) (te := tVar 3)
        (by rfl) scRight.nd (pi_list (pv 1)) (blkOk_by (own := [("bill", 3)]) (N := ["week", "bills", "night", "bill"]) (sc := defScope sRight) (by decide +kernel))
        (fun _ _ _ _ _ => pg_name (i := 3) scRight.nd rfl (Or.inl rfl)) (fun _ _ _ _ _ => by exact pts_one (pt_cmpR (op_eqD hr.units) (pe_def D2 hr rfl (pa_cons (pv 0) (pa_cons (pv 3) pa_nil))) (pe_lst pa_nil) (nomark _))) (fun _ _ _ _ _ => pv 3))))), ?_⟩
    have hn6 := W.ok.nl
    have hp4 := W.ok.pl
    refine ⟨Nat.zero_le _, fun p1 h1 => ⟨(by show 1 ≤ sizeLine; decide), fun p2 h2 => ?_⟩⟩
    have t1 := same_new (o := .lst []) h1
    have t2 := same_new (o := .lst [V.ref p1]) h2
    have n12 : p1 ≠ p2 := ne_of_none upd_same h2
    have sS : Same H _ := t1.trans t2
    have hB0 : BillsAt (upd (upd H p1 (.lst [])) p2 (.lst [V.ref p1])) p2 (pruned wk 0) := by
      refine ⟨[p1], upd_same, rfl, fun j c b hc hb => ?_⟩
      match j, hc, hb with
      | 0, hc, hb =>
        have e1 : p1 = c := Option.some.inj hc
        have e2 : ([] : Uw05.Bill) = b := Option.some.inj hb
        subst e1 e2
        exact ⟨by rw [upd_ne n12]; exact upd_same, n12⟩
      | j + 1, hc, hb => simp at hc
    have W0 := W.same sS
    have hf2 : H p2 = Option.none := t1.free h2
    generalize (upd (upd H p1 (.lst [])) p2 (.lst [V.ref p1])) = H0 at sS hB0 W0 ⊢
    obtain ⟨dw, hw⟩ := W0.ins
    refine ⟨_, rfl, a, CW, dw, _, _, rfl, hw, T.clW, T.nNights, weekF_nights an ap, an, rfl, ⟨_, SqL.of W0.nts⟩, ?_⟩
    refine for_list (K := K) (a := an) (xs := nv wk.nights) (fun i σ H' => ∃ (v : Option V) (p : Addr), σ = [some (.ref a), some (.ref p), v, none] ∧ Same H0 H' ∧ BillsAt H' p (pruned wk i)) ⟨none, p2, rfl, Same.refl _, hB0⟩ (fun i σ H' _ ⟨_, _, _, s1, _⟩ => SqL.of (s1 _ _ W0.nts)) ?_ ?_
    · rintro i y σ H1 hi ⟨v, p, rfl, s1, hB⟩
      have hin : i < wk.nights.length := by
        have := (List.getElem?_eq_some_iff.mp hi).1
        rw [nv_length] at this
        exact this
      refine ⟨_, rfl, _, rfl, Own, a, wk, an, ap, as, p, pruned wk i, rfl, W0.same s1, hB, pruned_small hp4 (by omega), fun b hb => ?_, fun H2 p3 s2 hp3 hB2 => ?_⟩
      · have := (pruned_mem hb).1
        omega
      · exact ⟨some y, p3, rfl, s1.trans s2, hB2⟩
    · rintro σ H1 ⟨v, p, rfl, s1, hB⟩
      rw [nv_length] at hB
      obtain ⟨bas, hb1, hb2, hb3⟩ := hB
      have sH1 := sS.trans s1
      refine ⟨_, rfl, p, rfl, ⟨_, SqL.of hb1⟩, fun D hD => ?_⟩
      refine lc_list (K := K) (a := p) (xs := bas.map V.ref) (fun i H' => Same H1 H' ∧ BillsAt H' D (((pruned wk wk.nights.length).take i).filter fun b => wrongL wk b == [])) ⟨same_new hD, BillsAt.nil upd_same⟩ (fun i H' _ ⟨s2, _⟩ => SqL.of (s2 _ _ hb1)) ?_ ?_
      · rintro i y H2 hi ⟨s2, hB2⟩
        obtain ⟨c, hc, rfl⟩ : ∃ c, bas[i]? = some c ∧ y = V.ref c := by
          rw [List.getElem?_map] at hi
          cases e : bas[i]? with
          | none => rw [e] at hi; cases hi
          | some c => rw [e] at hi; exact ⟨c, rfl, (Option.some.inj hi).symm⟩
        have hil : i < (pruned wk wk.nights.length).length := by
          rw [← hb2]
          exact (List.getElem?_eq_some_iff.mp hc).1
        obtain ⟨b, hb⟩ : ∃ b, (pruned wk wk.nights.length)[i]? = some b := ⟨_, List.getElem?_eq_getElem hil⟩
        have hcb := (hb3 i c b hc hb).1
        have hmem := pruned_mem (List.mem_of_getElem? hb)
        refine ⟨rfl, _, rfl, _, rfl, Own, a, wk, an, ap, as, c, b, rfl, W0.same (s1.trans s2), SqL.of (s2 _ _ hcb), ⟨Nat.le_of_eq hmem.1, hmem.2⟩, fun H3 p3 s3 hp3 h3 => ?_⟩
        refine ⟨Nat.zero_le _, fun p4 h4 => ?_⟩
        have s4 := same_new (o := .lst []) h4
        refine ⟨_, _, dp_ints (SqL.of (s4 _ _ h3)), dp_ints (ns := []) (SqL.of upd_same), sh_ints _, sh_nil, _, rfl, ?_⟩
        rw [show (([] : List Int).map PyData.int) = [] from rfl, eqv_nil]
        have hB3 := (hB2.keep s3).keep s4
        have s14 := (s2.trans s3).trans s4
        have hc4 := s14 _ _ hcb
        generalize upd H3 p4 (.lst []) = H4 at hB3 s14 hc4 ⊢
        rw [filter_more hb]
        cases hwr : wrongL wk b with
        | nil =>
          refine iteT ⟨_, rfl, ?_⟩
          obtain ⟨xs, hxs, hxl⟩ := hB3.len
          have hcD : c ≠ D := ne_of_none hcb hD
          refine ⟨xs, hxs, ?_, fun z o e => ?_, ?_⟩
          · rw [hxl]
            have l1 := pruned_small hp4 hn6
            have l2 : (((pruned wk wk.nights.length).take i).filter fun b => wrongL wk b == []).length ≤ 15625 := by
              refine Nat.le_trans (List.length_filter_le _ _) ?_
              rw [List.length_take]
              omega
            have l3 : 100000 < sizeLine := by decide
            omega
          · rw [upd_ne (ne_of_none e hD)]
            exact s14 _ _ e
          · rw [if_pos (by rfl)]
            refine hB3.more (c := c) (by rw [upd_ne hcD]; exact hc4) hcD (fun z o e hz => by rw [upd_ne hz]; exact e) (fun xs' hx => ?_)
            have ex : xs' = xs := by
              rw [hxs] at hx
              injection hx with hx
              injection hx with hx
              exact hx.symm
            rw [ex]
            exact upd_same
        | cons m r =>
          refine iteF ⟨s14, ?_⟩
          rw [if_neg (by intro z; cases z)]
          exact hB3
      · rintro H2 ⟨s2, hB2⟩
        rw [List.length_map, hb2, List.take_length] at hB2
        exact q H2 D (sH1.trans s2) (sH1.free hD) hB2
/-! ### best_bills -/
abbrev sBests : Stmt := top 29
def spBests (CW CP : Addr) (K : PySem.W.Frag) : Sp := fun vs H Q _ => ∃ (Own : Addr → Prop) (a : Addr) (wk : Uw05.Week) (an ap : Addr) (as : List Addr), vs = [.ref a] ∧ WeekAt CW CP Own H a wk an ap as ∧
  ∀ H' p fnd, Same H H' → H' p = some (.tup [.int (bestL wk (rightL wk)).1, .ref fnd]) → BillsAt H' fnd (bestL wk (rightL wk)).2 → Q (.ref p) H'
theorem scBests : FnScope ["week", "best", "found", "bill", "left"] ["week"] (defScope sBests) := ⟨rfl, rfl, rfl, by decide +kernel, rfl, by decide +kernel, by decide +kernel⟩
theorem bestL_more {wk : Uw05.Week} {bs : List Uw05.Bill} {i : Nat} {b : Uw05.Bill} (h : bs[i]? = some b) : bestL wk (bs.take (i + 1)) = bestT wk (bestL wk (bs.take i)) b := by
  unfold bestL
  rw [take_snoc h, List.foldl_append]
  rfl
theorem bestL_length (wk : Uw05.Week) (bs : List Uw05.Bill) : (bestL wk bs).2.length ≤ bs.length := by
  suffices h : ∀ (bs : List Uw05.Bill) (s : Int × List Uw05.Bill), (bs.foldl (bestT wk) s).2.length ≤ s.2.length + bs.length from Nat.le_trans (h bs (0, [])) (by simp)
  intro bs
  induction bs with
  | nil => intro s; exact Nat.le_refl _
  | cons b bs ih =>
    intro s
    have h1 := ih (bestT wk s b)
    have h2 := bestT_length wk s b
    rw [List.foldl_cons, List.length_cons]
    omega
theorem bestT_new {wk : Uw05.Week} {s : Int × List Uw05.Bill} {b : Uw05.Bill} (h : s.2 = [] ∨ s.1 < wk.left b) : bestT wk s b = (wk.left b, [b]) := by
  unfold bestT
  dsimp only
  rw [if_pos h]
  dsimp only
  rw [if_pos rfl]
  rfl
theorem bestT_eq {wk : Uw05.Week} {s : Int × List Uw05.Bill} {b : Uw05.Bill} (h : ¬ (s.2 = [] ∨ s.1 < wk.left b)) (e : wk.left b = s.1) : bestT wk s b = (s.1, s.2 ++ [b]) := by
  unfold bestT
  dsimp only
  rw [if_neg h, if_pos e]
theorem bestT_ne {wk : Uw05.Week} {s : Int × List Uw05.Bill} {b : Uw05.Bill} (h : ¬ (s.2 = [] ∨ s.1 < wk.left b)) (e : ¬ wk.left b = s.1) : bestT wk s b = s := by
  unfold bestT
  dsimp only
  rw [if_neg h, if_neg e]
theorem ok_bests {f : Addr} {fd : FuncData} (F : Fun K "best_bills" "best_bills" sBests f fd) (T : Txt K mg CW CP CD) (D1 : Has P w K mg base "right_bills" 4 ["week"] (spRight CW CP K)) (D2 : Has P w K mg base "left_of" 4 ["week", "bill"] (spLeft CW CP K)) :
    FnOk P w K mg base CX0 5 f fd ["week"] (spBests CW CP K) := by
  refine F.ok scBests (fun vs H Q E h => ?_) (fun cdv A outer s H vs Q E hr h => ?_)
  · obtain ⟨_, a, wk, an, ap, as, rfl, _⟩ := h
    rfl
  · obtain ⟨Own, a, wk, an, ap, as, rfl, W, q⟩ := h
    refine ⟨_, pss_cons (ps_set (i := 1) scBests.nd rfl (.inl rfl) pe_int)
      (pss_cons (ps_set (i := 2) scBests.nd rfl (.inl rfl) (pe_lst pa_nil))
      (pss_cons (ps_for PassesOwn.never rfl (pi_list (pe_def D1 hr rfl (pa_cons (pv 0) pa_nil))) (pg_name (i := 3) scBests.nd rfl (.inl rfl))
        (pss_cons (ps_set (i := 4) scBests.nd rfl (.inl rfl) (pe_def D2 hr rfl (pa_cons (pv 0) (pa_cons (pv 3) pa_nil))))
        (pss_cons (ps_if (PW.pt (pw_or (pt_cmpR (op_eqD hr.units) (pv 2) (pe_lst pa_nil) (nomark _)) (pw_or1 (pt_cmpR op_gt (pv 4) (pv 1) (nomark _)))))
          (pss_cons (ps_set (i := 1) scBests.nd rfl (.inl rfl) (pv 4)) (pss_one (ps_set (i := 2) scBests.nd rfl (.inl rfl) (pe_lst pa_nil)))) pss_nil)
        (pss_one (ps_if (pt_cmpR op_eq (pv 4) (pv 1) (nomark _)) (pss_one (ps_expr (pe_bm PySem.F.plainAttrs_list PySem.F.slot_list_append PySem.F.type_list_append mt_append (pv 2) (pa_cons (pv 3) pa_nil)))) pss_nil)))))
      (pss_one (ps_ret (pe_tup (pa_cons (pv 1) (pa_cons (pv 2) pa_nil))))))), ?_⟩
    have hok := W.ok
    refine ⟨Nat.zero_le _, fun f0 hf0 => ?_⟩
    have t0 := same_new (o := .lst []) hf0
    refine ⟨_, rfl, Own, a, wk, an, ap, as, rfl, W.same t0, fun H1 p1 s1 hp1 hB1 => ?_⟩
    have s01 := t0.trans s1
    obtain ⟨bas, hb1, hb2, hb3⟩ := hB1
    refine ⟨p1, rfl, ⟨_, SqL.of hb1⟩, ?_⟩
    refine for_list (K := K) (a := p1) (xs := bas.map V.ref) (fun i σ H' => ∃ (v3 v4 : Option V) (fnd : Addr), σ = [some (.ref a), some (.int (bestL wk ((rightL wk).take i)).1), some (.ref fnd), v3, v4] ∧ Same H1 H' ∧ ((bestL wk ((rightL wk).take i)).2 ≠ [] → H1 fnd = Option.none) ∧ BillsAt H' fnd (bestL wk ((rightL wk).take i)).2)
      ⟨none, none, f0, rfl, Same.refl _, fun h => absurd rfl h, BillsAt.nil (s1 _ _ upd_same)⟩ (fun i σ H' _ ⟨_, _, _, _, sH, _⟩ => SqL.of (sH _ _ hb1)) ?_ ?_
    · rintro i y σ H2 hi ⟨v3, v4, fnd, rfl, s2, hfn, hB2⟩
      obtain ⟨c, hc, rfl⟩ : ∃ c, bas[i]? = some c ∧ y = V.ref c := by
        rw [List.getElem?_map] at hi
        cases e : bas[i]? with
        | none => rw [e] at hi; cases hi
        | some c => rw [e] at hi; exact ⟨c, rfl, (Option.some.inj hi).symm⟩
      have hil : i < (rightL wk).length := by
        rw [← hb2]
        exact (List.getElem?_eq_some_iff.mp hc).1
      obtain ⟨b, hb⟩ : ∃ b, (rightL wk)[i]? = some b := ⟨_, List.getElem?_eq_getElem hil⟩
      have hcb := (hb3 i c b hc hb).1
      have hmem := rightL_mem (List.mem_of_getElem? hb)
      rw [bestL_more hb]
      have hsl : (bestL wk ((rightL wk).take i)).2.length ≤ 15625 := by
        have l1 := bestL_length wk ((rightL wk).take i)
        have l2 := rightL_small hok
        rw [List.length_take] at l1
        omega
      generalize bestL wk ((rightL wk).take i) = st at hfn hB2 hsl ⊢
      refine ⟨_, rfl, _, rfl, Own, a, wk, an, ap, as, c, b, rfl, W.same (s01.trans s2), SqL.of (s2 _ _ hcb), ⟨Nat.le_of_eq hmem.1, hmem.2⟩, fun H3 s3 => ?_⟩
      refine ⟨_, rfl, Nat.zero_le _, fun p4 h4 => ?_⟩
      have s4 := same_new (o := .lst []) h4
      have hB4 := (hB2.keep s3).keep s4
      refine ⟨_, _, dp_bills hB4, dp_ints (ns := []) (SqL.of upd_same), sh_bills _, sh_nil, _, rfl, ?_⟩
      rw [show (([] : List Int).map PyData.int) = [] from rfl, eqv_nil, dBills_empty]
      have s14 := (s2.trans s3).trans s4
      have hc4 := s14 _ _ hcb
      generalize upd H3 p4 (.lst []) = H4 at hB4 s14 hc4 ⊢
      have hbig : 100000 < sizeLine := by decide
      by_cases cnd : st.2 = [] ∨ st.1 < wk.left b
      · have hT := bestT_new cnd
        refine ite2 (fun h => ?_) (fun h => ?_)
        rotate_left
        · have hne : st.2 ≠ [] := fun z => h (by rw [z]; rfl)
          have hlt : st.1 < wk.left b := cnd.resolve_left hne
          refine ⟨_, rfl, _, rfl, _, _, rfl, rfl, _, rfl, ifT (decide_eq_true hlt) ?_⟩
          refine ⟨_, rfl, Nat.zero_le _, fun f5 h5 => ?_⟩
          have s5 := same_new (o := .lst []) h5
          refine ⟨_, rfl, _, rfl, rfl, _, rfl, ifT (eqT rfl) ?_⟩
          refine ⟨_, rfl, .inl ⟨rfl, _, SqL.of upd_same⟩, _, rfl, f5, [], _, rfl, rfl, upd_same, (by show 0 < sizeLine; decide), ?_⟩
          have hf5 : H1 f5 = Option.none := s14.free h5
          refine ⟨some (.ref c), some (.int (wk.left b)), f5, ?_, fun z o e => ?_, fun _ => hf5, ?_⟩
          · rw [hT]
            rfl
          · rw [upd_ne (ne_of_none e hf5)]
            exact s5 _ _ (s14 _ _ e)
          · rw [hT]
            have hcf := ne_of_none hcb hf5
            refine BillsAt.more (bs := []) (BillsAt.nil (upd_same (H := H4))) (by rw [upd_ne hcf, upd_ne hcf]; exact hc4) hcf (fun z o e hz => by rw [upd_ne hz]; exact e) (fun xs' hx => ?_)
            have ex : xs' = [] := by
              rw [upd_same] at hx
              injection hx with hx
              injection hx with hx
              exact hx.symm
            rw [ex]
            exact upd_same
        · refine ⟨_, rfl, Nat.zero_le _, fun f5 h5 => ?_⟩
          have s5 := same_new (o := .lst []) h5
          refine ⟨_, rfl, _, rfl, rfl, _, rfl, ifT (eqT rfl) ?_⟩
          refine ⟨_, rfl, .inl ⟨rfl, _, SqL.of upd_same⟩, _, rfl, f5, [], _, rfl, rfl, upd_same, (by show 0 < sizeLine; decide), ?_⟩
          have hf5 : H1 f5 = Option.none := s14.free h5
          refine ⟨some (.ref c), some (.int (wk.left b)), f5, ?_, fun z o e => ?_, fun _ => hf5, ?_⟩
          · rw [hT]
            rfl
          · rw [upd_ne (ne_of_none e hf5)]
            exact s5 _ _ (s14 _ _ e)
          · rw [hT]
            have hcf := ne_of_none hcb hf5
            refine BillsAt.more (bs := []) (BillsAt.nil (upd_same (H := H4))) (by rw [upd_ne hcf, upd_ne hcf]; exact hc4) hcf (fun z o e hz => by rw [upd_ne hz]; exact e) (fun xs' hx => ?_)
            have ex : xs' = [] := by
              rw [upd_same] at hx
              injection hx with hx
              injection hx with hx
              exact hx.symm
            rw [ex]
            exact upd_same
      · have hne : st.2 ≠ [] := fun z => cnd (.inl z)
        have hnlt : ¬ st.1 < wk.left b := fun z => cnd (.inr z)
        have hemp : st.2.isEmpty = false := by
          cases hz : st.2 with
          | nil => exact absurd hz hne
          | cons _ _ => rfl
        refine ifF hemp ⟨_, rfl, _, rfl, _, _, rfl, rfl, _, rfl, ifF (decide_eq_false hnlt) ?_⟩
        refine ⟨_, rfl, _, rfl, rfl, _, rfl, ?_⟩
        by_cases heq : wk.left b = st.1
        · have hT := bestT_eq cnd heq
          obtain ⟨xs, hxs, hxl⟩ := hB4.len
          have hfn1 := hfn hne
          refine ifT (eqT heq) ⟨_, rfl, .inl ⟨rfl, _, SqL.of hxs⟩, _, rfl, fnd, xs, _, rfl, rfl, hxs, by omega, ?_⟩
          refine ⟨some (.ref c), some (.int (wk.left b)), fnd, ?_, fun z o e => ?_, fun _ => hfn1, ?_⟩
          · rw [hT]
            rfl
          · rw [upd_ne (ne_of_none e hfn1)]
            exact s14 _ _ e
          · rw [hT]
            have hcf := ne_of_none hcb hfn1
            refine hB4.more (by rw [upd_ne hcf]; exact hc4) hcf (fun z o e hz => by rw [upd_ne hz]; exact e) (fun xs' hx => ?_)
            have ex : xs' = xs := by
              rw [hxs] at hx
              injection hx with hx
              injection hx with hx
              exact hx.symm
            rw [ex]
            exact upd_same
        · have hT := bestT_ne cnd heq
          refine ifF (eqF heq) ⟨some (.ref c), some (.int (wk.left b)), fnd, ?_, s14, fun _ => hfn hne, ?_⟩
          · rw [hT]
            rfl
          · rw [hT]
            exact hB4
    · rintro σ H2 ⟨v3, v4, fnd, rfl, s2, hfn, hB2⟩
      rw [List.length_map, hb2, List.take_length] at hB2 ⊢
      refine ⟨_, rfl, _, rfl, (by show 2 ≤ sizeLine; decide), fun p hp => ?_⟩
      have s3 := same_new (o := .tup [V.int (bestL wk (rightL wk)).1, V.ref fnd]) hp
      exact q _ p fnd ((s01.trans s2).trans s3) upd_same (hB2.keep s3)
end
end Wp

namespace Wp
open PySem PySem.Spec PyProof.Rows L2
open PySem.W (Codec)
/-- an own class made, by its name -/
theorem pe_mk {X : Cx} {x : Str} {C : Addr} {k : Nat} {ps : List Str} {sp : Sp} {p pos : Pos} {e : Expr} {es : List Expr} {t : TA} (D : Makes X.prog X.w X.K X.mg X.base x C k ps sp) (hr : Room (k + 1) X.A) (hg : Gl X x) (ha : PA X (e :: es) t)
    (hdb : (x == ("__debug__" : Str)) = false := by decide) (he : starEach (e :: es) X.env = (false, eval e X.env) :: starEach es X.env := by rfl) (hpl : (backTo pos (starEach es X.env)).any (·.1) = false := by rfl) :
    PE X (.Call (.Name x p) (e :: es) [] pos) (tMake C sp [] E0 t) := by
  obtain ⟨f, fd, hm, M, F, hb⟩ := D.ex
  exact pe_make M F hr hg hm hb .nil pass0 ha hdb he hpl
theorem pe_mk0 {X : Cx} {x : Str} {C : Addr} {k : Nat} {ps : List Str} {sp : Sp} {p pos : Pos} (D : Makes X.prog X.w X.K X.mg X.base x C k ps sp) (hr : Room (k + 1) X.A) (hg : Gl X x)
    (hdb : (x == ("__debug__" : Str)) = false := by decide) :
    PE X (.Call (.Name x p) [] [] pos) (tMake C sp [] E0 tNil) := by
  obtain ⟨f, fd, hm, M, F, hb⟩ := D.ex
  exact pe_make0 M F hr hg hm hb .nil pass0 hdb
section
variable {P : Program} {w : World} {K : PySem.W.Frag} {mg : Str → Option Value} {base : Heap} {CW CP CD : Addr}
/-! ### what __init__ does -/
abbrev sPlayI : Stmt := inClass (top 11) 0
def rawF (s t b m n : Nat) (lb : Addr) : List (Str × V) := [("set_up", .int (s : Int)), ("strike", .int (t : Int)), ("may_run", .int (b : Int)), ("least", .int (m : Int)), ("most", .int (n : Int)), ("brings", .ref lb)]
theorem rawF_play {s t b m n : Nat} {lb : Addr} {l : List Nat} (h : b ≤ 1) : rawF s t b m n lb = playF ⟨l, s, t, b == 1, m, n⟩ lb := by
  unfold rawF playF
  match b, h with
  | 0, _ => rfl
  | 1, _ => rfl
def spPlayI (CP : Addr) (K : PySem.W.Frag) : Sp := fun vs H Q _ => ∃ (p dx ln lb : Addr) (s t b m n : Nat), vs = [.ref p, .ref ln, .ref lb] ∧ H p = some (.ins CP dx []) ∧ SqL K H ln (nv [s, t, b, m, n]) ∧
  ∀ H' : Hp, H' p = some (.ins CP dx (rawF s t b m n lb)) → (∀ q o, H q = some o → q ≠ p → H' q = some o) → Q .non H'
theorem scPlayI : FnScope ["self", "numbers", "brings"] ["self", "numbers", "brings"] (defScope sPlayI) := ⟨rfl, rfl, rfl, by decide +kernel, rfl, by decide +kernel, by decide +kernel⟩
theorem put6 {f1 f2 f3 f4 f5 f6 : Str} {v1 v2 v3 v4 v5 v6 : V} (h : [f1, f2, f3, f4, f5, f6].Nodup) :
    putF f6 v6 (putF f5 v5 (putF f4 v4 (putF f3 v3 (putF f2 v2 (putF f1 v1 []))))) = [(f1, v1), (f2, v2), (f3, v3), (f4, v4), (f5, v5), (f6, v6)] := by
  simp only [List.nodup_cons, List.mem_cons, List.not_mem_nil, not_or, or_false] at h
  obtain ⟨⟨a1, a2, a3, a4, a5⟩, ⟨b1, b2, b3, b4⟩, ⟨c1, c2, c3⟩, ⟨d1, d2⟩, e1, _⟩ := h
  have e1 : putF f1 v1 [] = [(f1, v1)] := rfl
  have e2 : putF f2 v2 [(f1, v1)] = [(f1, v1), (f2, v2)] := put_past (by assumption)
  have e3 : putF f3 v3 [(f1, v1), (f2, v2)] = [(f1, v1), (f2, v2), (f3, v3)] := (put_past (by assumption)).trans (congrArg _ (put_past (by assumption)))
  have e4 : putF f4 v4 [(f1, v1), (f2, v2), (f3, v3)] = [(f1, v1), (f2, v2), (f3, v3), (f4, v4)] := (put_past (by assumption)).trans (congrArg _ ((put_past (by assumption)).trans (congrArg _ (put_past (by assumption)))))
  have e5 : putF f5 v5 [(f1, v1), (f2, v2), (f3, v3), (f4, v4)] = [(f1, v1), (f2, v2), (f3, v3), (f4, v4), (f5, v5)] := (put_past (by assumption)).trans (congrArg _ ((put_past (by assumption)).trans (congrArg _ ((put_past (by assumption)).trans (congrArg _ (put_past (by assumption)))))))
  have e6 : putF f6 v6 [(f1, v1), (f2, v2), (f3, v3), (f4, v4), (f5, v5)] = [(f1, v1), (f2, v2), (f3, v3), (f4, v4), (f5, v5), (f6, v6)] := (put_past (by assumption)).trans (congrArg _ ((put_past (by assumption)).trans (congrArg _ ((put_past (by assumption)).trans (congrArg _ ((put_past (by assumption)).trans (congrArg _ (put_past (by assumption)))))))))
  rw [e1, e2, e3, e4, e5, e6]
theorem lp {f : Str} {v : V} {fs : List (Str × V)} {n : Nat} (h : fs.length ≤ n) : (putF f v fs).length ≤ n + 1 := Nat.le_trans (length_putF f v fs) (Nat.succ_le_succ h)
theorem lpz {f : Str} {v : V} : (putF f v []).length ≤ 1 := Nat.le_refl _
theorem ok_playI {f : Addr} {fd : FuncData} (F : Fun K "__init__" "Play.__init__" sPlayI f fd) (T : Txt K mg CW CP CD) : FnOk P w K mg base CX0 1 f fd ["self", "numbers", "brings"] (spPlayI CP K) := by
  refine F.ok scPlayI (fun vs H Q E h => ?_) (fun cdv A outer s H vs Q E hr h => ?_)
  · obtain ⟨p, dx, ln, lb, s, t, b, m, n, rfl, _⟩ := h
    rfl
  · obtain ⟨p, dx, ln, lb, s, t, b, m, n, rfl, hp, hl, q⟩ := h
    refine ⟨_, pss_cons (ps_asg (pv 1) (pg_lst (n := 5) rfl (pgs_cons (pg_fld (pv 0)) (pgs_cons (pg_fld (pv 0)) (pgs_cons (pg_fld (pv 0)) (pgs_cons (pg_fld (pv 0)) (pgs_cons (pg_fld (pv 0)) pgs_nil)))))))
      (pss_one (ps_fld (pv 0) (pv 2) rfl)), ?_⟩
    have hl2 : SqL K H ln [V.int (s : Int), V.int (t : Int), V.int (b : Int), V.int (m : Int), V.int (n : Int)] := hl
    refine ⟨_, rfl, ln, _, rfl, hl2, rfl, _, _, rfl, _, rfl, p, CP, dx, _, rfl, hp, T.clP, T.nSet, (by show 0 < 1000; decide), ?_⟩
    refine ⟨_, _, rfl, _, rfl, p, CP, dx, _, rfl, upd_same, T.clP, T.nStrike, Nat.lt_of_le_of_lt lpz (by decide), ?_⟩
    refine ⟨_, _, rfl, _, rfl, p, CP, dx, _, rfl, upd_same, T.clP, T.nRun, Nat.lt_of_le_of_lt (lp lpz) (by decide), ?_⟩
    refine ⟨_, _, rfl, _, rfl, p, CP, dx, _, rfl, upd_same, T.clP, T.nLeast, Nat.lt_of_le_of_lt (lp (lp lpz)) (by decide), ?_⟩
    refine ⟨_, _, rfl, _, rfl, p, CP, dx, _, rfl, upd_same, T.clP, T.nMost, Nat.lt_of_le_of_lt (lp (lp (lp lpz))) (by decide), rfl, ?_⟩
    refine ⟨_, rfl, _, rfl, p, CP, dx, _, rfl, upd_same, T.clP, T.nBrings, Nat.lt_of_le_of_lt (lp (lp (lp (lp lpz)))) (by decide), ?_⟩
    refine q _ ?_ fun z o e hz => ?_
    · rw [upd_same, put6 (by decide +kernel)]
      rfl
    · rw [upd_ne hz, upd_ne hz, upd_ne hz, upd_ne hz, upd_ne hz, upd_ne hz]
      exact e
abbrev sWeekI : Stmt := inClass (top 12) 0
def spWeekI (CW : Addr) : Sp := fun vs H Q _ => ∃ (p dx an : Addr), vs = [.ref p, .ref an] ∧ H p = some (.ins CW dx []) ∧
  ∀ (H' : Hp) (ap : Addr), H' p = some (.ins CW dx (weekF an ap)) → H' ap = some (.lst []) → H ap = Option.none → (∀ q o, H q = some o → q ≠ p → H' q = some o) → Q .non H'
theorem scWeekI : FnScope ["self", "nights"] ["self", "nights"] (defScope sWeekI) := ⟨rfl, rfl, rfl, by decide +kernel, rfl, by decide +kernel, by decide +kernel⟩
theorem ok_weekI {f : Addr} {fd : FuncData} (F : Fun K "__init__" "Week.__init__" sWeekI f fd) (T : Txt K mg CW CP CD) : FnOk P w K mg base CX0 1 f fd ["self", "nights"] (spWeekI CW) := by
  refine F.ok scWeekI (fun vs H Q E h => ?_) (fun cdv A outer s H vs Q E hr h => ?_)
  · obtain ⟨p, dx, an, rfl, _⟩ := h
    rfl
  · obtain ⟨p, dx, an, rfl, hp, q⟩ := h
    refine ⟨_, pss_cons (ps_fld (pv 0) (pv 1) rfl) (pss_one (ps_fld (pv 0) (pe_lst pa_nil) rfl)), ?_⟩
    refine ⟨_, rfl, _, rfl, p, CW, dx, _, rfl, hp, T.clW, T.nNights, (by show 0 < 1000; decide), ?_⟩
    refine ⟨Nat.zero_le _, fun ap hap => ?_⟩
    have hap2 : p ≠ ap := ne_of_none upd_same hap
    have hpn : H ap = Option.none := by
      rw [upd_ne (fun z => hap2 z.symm)] at hap
      exact hap
    refine ⟨_, rfl, p, CW, dx, _, rfl, (by rw [upd_ne hap2]; exact upd_same), T.clW, T.nPlays, Nat.lt_of_le_of_lt lpz (by decide), ?_⟩
    refine q _ ap ?_ ?_ hpn fun z o e hz => ?_
    · rw [upd_same, show putF "nights" (V.ref an) [] = [(("nights" : Str), V.ref an)] from rfl, put_past (by decide +kernel)]
      rfl
    · rw [upd_ne (fun z => hap2 z.symm)]
      exact upd_same
    · rw [upd_ne hz, upd_ne (ne_of_none e hpn), upd_ne hz]
      exact e
abbrev sDeskI : Stmt := inClass (top 36) 0
def spDeskI (CW CP CD : Addr) : Sp := fun vs H Q _ => ∃ (p dx : Addr), vs = [.ref p] ∧ H p = some (.ins CD dx []) ∧
  ∀ (H' : Hp) (wk an ap : Addr), H' p = some (.ins CD dx (deskF wk)) → H wk = Option.none → H an = Option.none → H ap = Option.none →
    (∀ Own : Addr → Prop, Own wk → Own an → Own ap → WeekAt CW CP Own H' wk Uw05.init an ap []) → (∀ q o, H q = some o → q ≠ p → H' q = some o) → Q .non H'
theorem scDeskI : FnScope ["self"] ["self"] (defScope sDeskI) := ⟨rfl, rfl, rfl, by decide +kernel, rfl, by decide +kernel, by decide +kernel⟩
theorem ok_init : Ok Uw05.init := ⟨by decide, (fun x h => by cases h), by decide, (fun p h => by cases h)⟩
/-- a week just made -/
theorem week_new {CW CP : Addr} {Own : Addr → Prop} {H : Hp} {a an ap dx : Addr} {ns : List Nat} (h1 : H a = some (.ins CW dx (weekF an ap))) (h2 : H an = some (.lst (nv ns))) (h3 : H ap = some (.lst [])) (hd : an ≠ ap) (oa : Own a) (on : Own an) (op : Own ap) (ok : Ok ⟨ns, []⟩) :
    WeekAt CW CP Own H a ⟨ns, []⟩ an ap [] := ⟨⟨dx, h1⟩, h2, h3, rfl, fun j c p hc _ => by simp at hc, hd, oa, on, op, ok⟩
theorem ok_deskI {f : Addr} {fd : FuncData} (F : Fun K "__init__" "Desk.__init__" sDeskI f fd) (T : Txt K mg CW CP CD) (D1 : Makes P w K mg base "Week" CW 1 ["self", "nights"] (spWeekI CW)) : FnOk P w K mg base CX0 3 f fd ["self"] (spDeskI CW CP CD) := by
  refine F.ok scDeskI (fun vs H Q E h => ?_) (fun cdv A outer s H vs Q E hr h => ?_)
  · obtain ⟨p, dx, rfl, _⟩ := h
    rfl
  · obtain ⟨p, dx, rfl, hp, q⟩ := h
    refine ⟨_, pss_one (ps_fld (pv 0) (pe_mk D1 hr rfl (pa_cons (pe_lst pa_nil) pa_nil)) rfl), ?_⟩
    refine ⟨Nat.zero_le _, fun an han => ?_⟩
    have s1 := same_new (o := .lst []) han
    intro wk dw hwk hdw hne
    refine ⟨wk, dw, an, rfl, upd_same, fun H' ap h1 h2 h3 kp => ⟨rfl, ?_⟩⟩
    have hap0 : H ap = Option.none := by
      have h4 : ap ≠ wk := fun z => by
        rw [z, upd_same] at h3
        cases h3
      rw [upd_ne h4] at h3
      have h5 : ap ≠ dw := fun z => by
        rw [z, upd_same] at h3
        cases h3
      rw [upd_ne h5] at h3
      exact s1.free h3
    have hwk0 := s1.free hwk
    have nan : an ≠ wk := ne_of_none upd_same hwk
    have nan2 : an ≠ dw := ne_of_none upd_same hdw
    have npw : p ≠ wk := ne_of_none hp hwk0
    have npd : p ≠ dw := ne_of_none hp (s1.free hdw)
    have npa : p ≠ an := ne_of_none hp han
    have npap : p ≠ ap := ne_of_none hp hap0
    have hpH : H' p = some (.ins CD dx []) := kp _ _ (by rw [upd_ne npw, upd_ne npd]; exact s1 _ _ hp) npw
    have hanH : H' an = some (.lst []) := kp _ _ (by rw [upd_ne nan, upd_ne nan2]; exact upd_same) nan
    have nad : an ≠ ap := fun z => by
      rw [z] at nan nan2
      rw [upd_ne nan, upd_ne nan2, z, upd_same] at h3
      cases h3
    refine ⟨_, rfl, p, CD, dx, _, rfl, hpH, T.clD, T.nWeek, (by show 0 < 1000; decide), ?_⟩
    refine q _ wk an ap ?_ hwk0 han hap0 (fun Own o1 o2 o3 => ?_) fun z o e hz => ?_
    · rw [upd_same]
      rfl
    · exact week_new (ns := []) (by rw [upd_ne (fun z => npw z.symm)]; exact h1) (by rw [upd_ne (fun z => npa z.symm)]; exact hanH) (by rw [upd_ne (fun z => npap z.symm)]; exact h2) nad o1 o2 o3 ok_init
    · have z1 := ne_of_none e hwk0
      have z2 := ne_of_none e (s1.free hdw)
      rw [upd_ne hz]
      exact kp _ _ (by rw [upd_ne z1, upd_ne z2]; exact s1 _ _ e) z1
end
end Wp

namespace Wp
open PySem PySem.Spec PyProof.Rows L2
open PySem.W (Codec)
def flat (L : List (List Nat)) : List Int := L.flatMap fun w => (w.length : Int) :: ins w
theorem out_eq (a : Uw05.Ans) : Uw05Neutral.out a = a.v :: flat a.l := rfl
theorem tell_eq (wk : Uw05.Week) (b : Uw05.Bill) : Uw05.tell wk b = [b, takeL wk b, [wk.took b, wk.works b]] := rfl
theorem flat_tell (wk : Uw05.Week) (b : Uw05.Bill) : flat (Uw05.tell wk b) = ((b.length : Int) :: ins b) ++ (((takeL wk b).length : Int) :: ins (takeL wk b)) ++ [2, ((wk.took b : Nat) : Int), ((wk.works b : Nat) : Int)] := by
  rw [tell_eq]
  unfold flat
  rw [List.flatMap_cons, List.flatMap_cons, List.flatMap_cons, List.flatMap_nil, List.append_nil, List.append_assoc]
  rfl
theorem flat_length (wk : Uw05.Week) (b : Uw05.Bill) : (flat (Uw05.tell wk b)).length = b.length + b.length + 5 := by
  rw [flat_tell]
  simp only [List.length_append, List.length_cons, List.length_nil, ins_length, takeL_length]
  omega
theorem bestL_mem {wk : Uw05.Week} {bs : List Uw05.Bill} {c : Uw05.Bill} (h : c ∈ (bestL wk bs).2) : c ∈ bs := by
  suffices hh : ∀ (bs : List Uw05.Bill) (s : Int × List Uw05.Bill), c ∈ (bs.foldl (bestT wk) s).2 → c ∈ s.2 ∨ c ∈ bs by
    rcases hh bs (0, []) h with h | h
    · cases h
    · exact h
  intro bs
  induction bs with
  | nil => intro s h; exact .inl h
  | cons b bs ih =>
    intro s h
    rcases ih _ h with h | h
    · rcases bestT_sub h with h | h
      · exact .inl h
      · exact .inr (by rw [h]; exact List.mem_cons_self)
    · exact .inr (List.mem_cons_of_mem _ h)
theorem nums_best (wk : Uw05.Week) : nums wk .best = match (bestL wk (rightL wk)).2 with
    | [] => [0]
    | b :: r => (bestL wk (rightL wk)).1 :: (1 :: ((r.length + 1 : Nat) : Int) :: flat (Uw05.tell wk b)) := by
  unfold nums
  rw [out_eq]
  show (match wk.best with
    | some x => (⟨x.left, [x.many] :: Uw05.tell wk x.bill⟩ : Uw05.Ans)
    | none => ⟨0, []⟩).v :: flat (match wk.best with
    | some x => (⟨x.left, [x.many] :: Uw05.tell wk x.bill⟩ : Uw05.Ans)
    | none => ⟨0, []⟩).l = _
  rw [best_eq]
  unfold view
  cases (bestL wk (rightL wk)).2 with
  | nil => rfl
  | cons b r => rfl
section
variable {P : Program} {w : World} {K : PySem.W.Frag} {mg : Str → Option Value} {base : Heap} {CW CP CD : Addr}
/-! ### bill_told -/
abbrev sBillTold : Stmt := top 40
def spBillTold (CW CP : Addr) (K : PySem.W.Frag) : Sp := fun vs H Q _ => ∃ (Own : Addr → Prop) (a : Addr) (wk : Uw05.Week) (an ap : Addr) (as : List Addr) (l : Addr) (b : Uw05.Bill), vs = [.ref a, .ref l] ∧ WeekAt CW CP Own H a wk an ap as ∧
  SqL K H l (nv b) ∧ Fit wk b ∧ ∀ H' p, Same H H' → H p = Option.none → H' p = some (.lst ((flat (Uw05.tell wk b)).map V.int)) → Q (.ref p) H'
theorem scBillTold : FnScope ["week", "bill", "some"] ["week", "bill"] (defScope sBillTold) := ⟨rfl, rfl, rfl, by decide +kernel, rfl, by decide +kernel, by decide +kernel⟩
theorem ok_billTold {f : Addr} {fd : FuncData} (F : Fun K "bill_told" "bill_told" sBillTold f fd) (T : Txt K mg CW CP CD) (D1 : Has P w K mg base "takings" 3 ["week", "bill"] (spTakings CW CP K)) (D2 : Has P w K mg base "told" 1 ["some"] (spTold K)) (D3 : Has P w K mg base "work_of" 3 ["week", "bill"] (spWork CW CP K)) :
    FnOk P w K mg base CX0 4 f fd ["week", "bill"] (spBillTold CW CP K) := by
  refine F.ok scBillTold (fun vs H Q E h => ?_) (fun cdv A outer s H vs Q E hr h => ?_)
  · obtain ⟨_, a, wk, an, ap, as, l, b, rfl, _⟩ := h
    rfl
  · obtain ⟨Own, a, wk, an, ap, as, l, b, rfl, W, hl, hF, q⟩ := h
    have hr1 : Room 1 _ := hr.mono (by decide)
    refine ⟨_, pss_cons (ps_set (i := 2) scBillTold.nd rfl (.inl rfl) (pe_def D1 hr rfl (pa_cons (pv 0) (pa_cons (pv 1) pa_nil))))
      (pss_one (ps_ret (pe_op op_cat (pe_op op_cat (pe_def D2 hr1 rfl (pa_cons (pv 1) pa_nil)) (pe_def D2 hr1 rfl (pa_cons (pv 2) pa_nil)))
        (pe_def D2 hr1 rfl (pa_cons (pe_lst (pa_cons (pe_callB (cr_sum rfl) (by rfl) T.sum (by decide +kernel) (pa_cons (pv 2) pa_nil)) (pa_cons (pe_def D3 hr rfl (pa_cons (pv 0) (pa_cons (pv 1) pa_nil))) pa_nil))) pa_nil))))), ?_⟩
    have hb6 : b.length ≤ 6 := Nat.le_trans hF.len W.ok.nl
    refine ⟨_, rfl, _, rfl, Own, a, wk, an, ap, as, l, b, rfl, W, hl, hF, fun H1 p1 s1 hp1 h1 => ?_⟩
    refine ⟨_, rfl, l, ins b, rfl, s1.seq hl, by rw [ins_length]; omega, fun H2 p2 s2 hp2 h2 => ?_⟩
    refine ⟨_, rfl, p1, ins (takeL wk b), rfl, SqL.of (s2 _ _ h1), by rw [ins_length, takeL_length]; omega, fun H3 p3 s3 hp3 h3 => ?_⟩
    refine ⟨p2, p3, _, _, rfl, rfl, s3 _ _ h2, h3, ?_, fun p4 hp4 => ?_⟩
    · refine Nat.le_of_lt (size_1000 ?_)
      simp only [List.length_map, List.length_cons, ins_length, takeL_length]
      omega
    have s4 := same_new (o := .lst (List.map V.int (((ins b).length : Int) :: ins b) ++ List.map V.int (((ins (takeL wk b)).length : Int) :: ins (takeL wk b)))) hp4
    have h4 := upd_same (H := H3) (a := p4) (o := .lst (List.map V.int (((ins b).length : Int) :: ins b) ++ List.map V.int (((ins (takeL wk b)).length : Int) :: ins (takeL wk b))))
    have s14 := ((s1.trans s2).trans s3).trans s4
    have h14 := s4 _ _ (s3 _ _ (s2 _ _ h1))
    generalize upd H3 p4 (.lst (List.map V.int (((ins b).length : Int) :: ins b) ++ List.map V.int (((ins (takeL wk b)).length : Int) :: ins (takeL wk b)))) = H4 at s14 h14 h4 ⊢
    refine ⟨_, rfl, p1, ins (takeL wk b), rfl, SqL.of h14, _, rfl, _, rfl, Own, a, wk, an, ap, as, l, b, rfl, W.same s14, s14.seq hl, hF, fun H5 s5 => ?_⟩
    refine ⟨(by show 2 ≤ sizeLine; decide), fun p6 hp6 => ?_⟩
    have s6 := same_new (o := .lst [V.int (ins (takeL wk b)).sum, V.int ((wk.works b : Nat) : Int)]) hp6
    refine ⟨p6, [(ins (takeL wk b)).sum, ((wk.works b : Nat) : Int)], rfl, SqL.of upd_same, (by show 2 ≤ 1000; decide), fun H7 p7 s7 hp7 h7 => ?_⟩
    have s47 := (s5.trans s6).trans s7
    refine ⟨p4, p7, _, _, rfl, rfl, s47 _ _ h4, h7, ?_, fun p8 hp8 => ?_⟩
    · refine Nat.le_of_lt (size_1000 ?_)
      simp only [List.length_map, List.length_append, List.length_cons, List.length_nil, ins_length, takeL_length]
      omega
    refine q _ p8 ((s14.trans s47).trans (same_new hp8)) ((s14.trans s47).free hp8) ?_
    rw [upd_same, flat_tell, took_sum, ins_length, ins_length]
    simp only [List.map_append, List.map_cons, List.map_nil]
    rfl
/-! ### best -/
abbrev sBest : Stmt := top 41
def spBest (CW CP : Addr) (K : PySem.W.Frag) : Sp := fun vs H Q _ => ∃ (Own : Addr → Prop) (a : Addr) (wk : Uw05.Week) (an ap : Addr) (as : List Addr), vs = [.ref a] ∧ WeekAt CW CP Own H a wk an ap as ∧
  ∀ H' p, Same H H' → H p = Option.none → H' p = some (.lst ((nums wk .best).map V.int)) → Q (.ref p) H'
theorem scBest : FnScope ["week", "left", "bills"] ["week"] (defScope sBest) := ⟨rfl, rfl, rfl, by decide +kernel, rfl, by decide +kernel, by decide +kernel⟩
theorem ok_best {f : Addr} {fd : FuncData} (F : Fun K "best" "best" sBest f fd) (T : Txt K mg CW CP CD) (D1 : Has P w K mg base "best_bills" 5 ["week"] (spBests CW CP K)) (D2 : Has P w K mg base "told" 1 ["some"] (spTold K)) (D3 : Has P w K mg base "bill_told" 4 ["week", "bill"] (spBillTold CW CP K)) :
    FnOk P w K mg base CX0 6 f fd ["week"] (spBest CW CP K) := by
  refine F.ok scBest (fun vs H Q E h => ?_) (fun cdv A outer s H vs Q E hr h => ?_)
  · obtain ⟨_, a, wk, an, ap, as, rfl, _⟩ := h
    rfl
  · obtain ⟨Own, a, wk, an, ap, as, rfl, W, q⟩ := h
    have hr1 : Room 1 _ := hr.mono (by decide)
    have hr4 : Room 4 _ := hr.mono (by decide)
    refine ⟨_, pss_cons (ps_asg (pe_def D1 hr rfl (pa_cons (pv 0) pa_nil)) (pg_tup (n := 2) rfl (pgs_cons (pg_name (i := 1) scBest.nd rfl (.inl rfl)) (pgs_cons (pg_name (i := 2) scBest.nd rfl (.inl rfl)) pgs_nil))))
      (pss_cons (ps_if (pt_cmpR (op_eqD hr.units) (pv 2) (pe_lst pa_nil) (nomark _)) (pss_one (ps_ret (pe_lst (pa_cons pe_int pa_nil)))) pss_nil)
      (pss_one (ps_ret (pe_op op_cat (pe_op op_cat (pe_lst (pa_cons (pv 1) pa_nil)) (pe_def D2 hr1 rfl (pa_cons (pe_lst (pa_cons (pe_callB call_len_seq (by rfl) T.len PySem.boot_len (pa_cons (pv 2) pa_nil)) pa_nil)) pa_nil)))
        (pe_def D3 hr4 rfl (pa_cons (pv 0) (pa_cons (pe_ix ix_list (pv 2) pe_int (fun _ _ => rfl)) pa_nil))))))), ?_⟩
    have hok := W.ok
    refine ⟨_, rfl, Own, a, wk, an, ap, as, rfl, W, fun H1 p1 fnd s1 h1 hB => ?_⟩
    refine ⟨p1, _, rfl, SqT.of h1, rfl, _, _, rfl, _, _, rfl, rfl, ?_⟩
    refine ⟨_, rfl, Nat.zero_le _, fun p2 hp2 => ?_⟩
    have s2 := same_new (o := .lst []) hp2
    have hB2 := hB.keep s2
    refine ⟨_, _, dp_bills hB2, dp_ints (ns := []) (SqL.of upd_same), sh_bills _, sh_nil, _, rfl, ?_⟩
    rw [show (([] : List Int).map PyData.int) = [] from rfl, eqv_nil, dBills_empty]
    rw [nums_best] at q
    have hmem : ∀ c, c ∈ (bestL wk (rightL wk)).2 → Fit wk c := fun c hc => by
      have h := rightL_mem (bestL_mem hc)
      exact ⟨Nat.le_of_eq h.1, h.2⟩
    have s12 := s1.trans s2
    generalize upd H1 p2 (.lst []) = H2 at hB2 s12 ⊢
    generalize (bestL wk (rightL wk)).1 = lf at q
    generalize (bestL wk (rightL wk)).2 = bs at q hB2 hmem ⊢
    match bs, q, hB2, hmem with
    | [], q, hB2, hmem =>
      refine iteT ⟨(by show 1 ≤ sizeLine; decide), fun p3 hp3 => ?_⟩
      refine q _ p3 (s12.trans (same_new hp3)) (s12.free hp3) ?_
      rw [upd_same]
      rfl
    | b :: r, q, hB2, hmem =>
      have hF := hmem b List.mem_cons_self
      have hb6 : b.length ≤ 6 := Nat.le_trans hF.len hok.nl
      obtain ⟨bas, hb1, hb2, hb3⟩ := hB2
      obtain ⟨c, hc⟩ : ∃ c, bas[0]? = some c := ⟨_, List.getElem?_eq_getElem (by rw [hb2]; exact Nat.zero_lt_succ _)⟩
      have hcb := (hb3 0 c b hc rfl).1
      have hc0 : (bas.map V.ref)[0]? = some (V.ref c) := by
        rw [List.getElem?_map, hc]
        rfl
      refine iteF ⟨_, rfl, (by show 1 ≤ sizeLine; decide), fun p3 hp3 => ?_⟩
      have s3 := same_new (o := .lst [V.int lf]) hp3
      refine ⟨_, rfl, fnd, _, rfl, .inl (SqL.of (s3 _ _ hb1)), (by show 1 ≤ sizeLine; decide), fun p4 hp4 => ?_⟩
      have s4 := same_new (o := .lst [V.int ((bas.map V.ref).length : Int)]) hp4
      refine ⟨p4, [((bas.map V.ref).length : Int)], rfl, SqL.of upd_same, (by show 1 ≤ 1000; decide), fun H5 p5 s5 hp5 h5 => ?_⟩
      refine ⟨p3, p5, _, _, rfl, rfl, s5 _ _ (s4 _ _ upd_same), h5, (by show 1 + 2 ≤ sizeLine; decide), fun p6 hp6 => ?_⟩
      have s6 := same_new (o := .lst ([V.int lf] ++ List.map V.int [(([((bas.map V.ref).length : Int)] : List Int).length : Int), ((bas.map V.ref).length : Int)])) hp6
      have s26 := ((s3.trans s4).trans s5).trans s6
      refine ⟨_, rfl, _, rfl, fnd, _, _, _, rfl, rfl, SqL.of (s26 _ _ hb1), at_of (j := 0) rfl hc0, ?_⟩
      refine ⟨Own, a, wk, an, ap, as, c, b, rfl, W.same (s12.trans s26), SqL.of (s26 _ _ hcb), hF, fun H7 p7 s7 hp7 h7 => ?_⟩
      refine ⟨p6, p7, _, _, rfl, rfl, s7 _ _ upd_same, h7, ?_, fun p8 hp8 => ?_⟩
      · refine Nat.le_of_lt (size_1000 ?_)
        simp only [List.length_map, List.length_append, List.length_cons, List.length_nil, flat_length]
        omega
      refine q _ p8 (((s12.trans s26).trans s7).trans (same_new hp8)) (((s12.trans s26).trans s7).free hp8) ?_
      rw [upd_same, List.length_map, hb2]
      simp only [List.map_append, List.map_cons, List.map_nil]
      rfl
/-! ### check -/
abbrev sCheck : Stmt := top 42
def spCheck (CW CP : Addr) (K : PySem.W.Frag) : Sp := fun vs H Q _ => ∃ (Own : Addr → Prop) (a : Addr) (wk : Uw05.Week) (an ap : Addr) (as : List Addr) (l : Addr) (b : Uw05.Bill), vs = [.ref a, .ref l] ∧ WeekAt CW CP Own H a wk an ap as ∧
  SqL K H l (nv b) ∧ b.length ≤ 1000 ∧ ∀ H' p, Same H H' → H p = Option.none → H' p = some (.lst ((nums wk (.check b)).map V.int)) → Q (.ref p) H'
theorem scCheck : FnScope ["week", "bill", "wrong"] ["week", "bill"] (defScope sCheck) := ⟨rfl, rfl, rfl, by decide +kernel, rfl, by decide +kernel, by decide +kernel⟩
theorem nums_check_no {wk : Uw05.Week} {b : Uw05.Bill} (h : isBill wk b = false) : nums wk (.check b) = [-1] := by
  unfold nums
  have e : b.length ≠ wk.nights.length ∨ (b.all fun k => decide (k ≤ wk.plays.length)) = false := by
    unfold isBill at h
    rw [Bool.and_eq_false_iff] at h
    rcases h with h | h
    · exact .inl (of_decide_eq_false h)
    · exact .inr h
  show Uw05Neutral.out (if b.length ≠ wk.nights.length ∨ (b.all fun k => decide (k ≤ wk.plays.length)) = false then (wk, Uw05.ok (-1)) else _).2 = _
  rw [if_pos e]
  rfl
theorem isBill_yes {wk : Uw05.Week} {b : Uw05.Bill} (h : isBill wk b = true) : b.length = wk.nights.length ∧ (b.all fun k => decide (k ≤ wk.plays.length)) = true := by
  unfold isBill at h
  rw [Bool.and_eq_true] at h
  exact ⟨of_decide_eq_true h.1, h.2⟩
theorem nums_check_yes {wk : Uw05.Week} {b : Uw05.Bill} (h : isBill wk b = true) : nums wk (.check b) = if wrongL wk b = [] then 1 :: flat (Uw05.tell wk b) else 0 :: ((wrongL wk b).length : Int) :: ins (wrongL wk b) := by
  unfold nums
  obtain ⟨h1, h2⟩ := isBill_yes h
  have e : ¬ (b.length ≠ wk.nights.length ∨ (b.all fun k => decide (k ≤ wk.plays.length)) = false) := by
    rintro (q | q)
    · exact q h1
    · rw [h2] at q
      cases q
  show Uw05Neutral.out (if b.length ≠ wk.nights.length ∨ (b.all fun k => decide (k ≤ wk.plays.length)) = false then (wk, Uw05.ok (-1)) else (wk, match wk.wrong b with
    | none => ⟨1, Uw05.tell wk b⟩
    | some x => ⟨0, [[x.1, x.2]]⟩)).2 = _
  rw [if_neg e]
  unfold wrongL
  cases wk.wrong b with
  | none => rfl
  | some x => rfl
theorem wrongL_length (wk : Uw05.Week) (b : Uw05.Bill) : (wrongL wk b).length ≤ 2 := by
  unfold wrongL
  cases wk.wrong b <;> simp
theorem ok_check {f : Addr} {fd : FuncData} (F : Fun K "check" "check" sCheck f fd) (T : Txt K mg CW CP CD) (D1 : Has P w K mg base "is_bill" 1 ["week", "bill"] (spIsBill CW CP K)) (D2 : Has P w K mg base "told" 1 ["some"] (spTold K)) (D3 : Has P w K mg base "bill_told" 4 ["week", "bill"] (spBillTold CW CP K))
    (D4 : Has P w K mg base "wrong_with" 3 ["week", "bill"] (spWrong CW CP K)) : FnOk P w K mg base CX0 5 f fd ["week", "bill"] (spCheck CW CP K) := by
  refine F.ok scCheck (fun vs H Q E h => ?_) (fun cdv A outer s H vs Q E hr h => ?_)
  · obtain ⟨_, a, wk, an, ap, as, l, b, rfl, _⟩ := h
    rfl
  · obtain ⟨Own, a, wk, an, ap, as, l, b, rfl, W, hl, hn, q⟩ := h
    have hr1 : Room 1 _ := hr.mono (by decide)
    have hr3 : Room 3 _ := hr.mono (by decide)
    refine ⟨_, pss_cons (ps_if (pt_not (pt_val (pe_def D1 hr1 rfl (pa_cons (pv 0) (pa_cons (pv 1) pa_nil))))) (pss_one (ps_ret (pe_lst (pa_cons (pe_gint T.notRight rfl) pa_nil)))) pss_nil)
      (pss_cons (ps_set (i := 2) scCheck.nd rfl (.inl rfl) (pe_def D4 hr3 rfl (pa_cons (pv 0) (pa_cons (pv 1) pa_nil))))
      (pss_cons (ps_if (pt_cmpR (op_neD hr.units) (pv 2) (pe_lst pa_nil) (nomark _)) (pss_one (ps_ret (pe_op op_cat (pe_lst (pa_cons pe_int pa_nil)) (pe_def D2 hr1 rfl (pa_cons (pv 2) pa_nil))))) pss_nil)
      (pss_one (ps_ret (pe_op op_cat (pe_lst (pa_cons pe_int pa_nil)) (pe_def D3 hr rfl (pa_cons (pv 0) (pa_cons (pv 1) pa_nil)))))))), ?_⟩
    refine ⟨_, rfl, _, rfl, Own, a, wk, an, ap, as, l, b, rfl, W, hl, hn, fun H1 s1 => ⟨_, rfl, ?_⟩⟩
    cases hib : isBill wk b with
    | false =>
      rw [nums_check_no hib] at q
      refine iteT ⟨(by show 1 ≤ sizeLine; decide), fun p hp => ?_⟩
      refine q _ p (s1.trans (same_new hp)) (s1.free hp) ?_
      rw [upd_same]
      rfl
    | true =>
      rw [nums_check_yes hib] at q
      obtain ⟨e1, e2⟩ := isBill_yes hib
      have hF : Fit wk b := ⟨Nat.le_of_eq e1, fun x hx => of_decide_eq_true (List.all_eq_true.mp e2 x hx)⟩
      have hb6 : b.length ≤ 6 := Nat.le_trans hF.len W.ok.nl
      refine iteF ⟨_, rfl, _, rfl, Own, a, wk, an, ap, as, l, b, rfl, W.same s1, s1.seq hl, hF, fun H2 p2 s2 hp2 h2 => ?_⟩
      refine ⟨_, rfl, Nat.zero_le _, fun p3 hp3 => ?_⟩
      have s3 := same_new (o := .lst []) hp3
      have s13 := (s1.trans s2).trans s3
      have h3 := s3 _ _ h2
      refine ⟨_, _, dp_ints (SqL.of h3), dp_ints (ns := []) (SqL.of upd_same), sh_ints _, sh_nil, _, rfl, ?_⟩
      rw [show (([] : List Int).map PyData.int) = [] from rfl, eqv_nil]
      generalize upd H2 p3 (.lst []) = H3 at s13 h3 ⊢
      have hwl := wrongL_length wk b
      cases hwr : wrongL wk b with
      | nil =>
        rw [if_pos hwr] at q
        refine iteF ⟨(by show 1 ≤ sizeLine; decide), fun p4 hp4 => ?_⟩
        have s4 := same_new (o := .lst [V.int 1]) hp4
        have s14 := s13.trans s4
        refine ⟨_, rfl, _, rfl, Own, a, wk, an, ap, as, l, b, rfl, W.same s14, s14.seq hl, hF, fun H5 p5 s5 hp5 h5 => ?_⟩
        refine ⟨p4, p5, _, _, rfl, rfl, s5 _ _ upd_same, h5, ?_, fun p6 hp6 => ?_⟩
        · refine Nat.le_of_lt (size_1000 ?_)
          simp only [List.length_map, List.length_cons, List.length_nil, flat_length]
          omega
        refine q _ p6 ((s14.trans s5).trans (same_new hp6)) ((s14.trans s5).free hp6) ?_
        rw [upd_same]
        rfl
      | cons m r =>
        rw [if_neg (by rw [hwr]; exact List.cons_ne_nil _ _)] at q
        refine iteT ⟨(by show 1 ≤ sizeLine; decide), fun p4 hp4 => ?_⟩
        have s4 := same_new (o := .lst [V.int 0]) hp4
        have s14 := s13.trans s4
        refine ⟨_, rfl, p2, ins (wrongL wk b), rfl, SqL.of (s4 _ _ h3), by rw [ins_length]; omega, fun H5 p5 s5 hp5 h5 => ?_⟩
        refine ⟨p4, p5, _, _, rfl, rfl, s5 _ _ upd_same, h5, ?_, fun p6 hp6 => ?_⟩
        · refine Nat.le_of_lt (size_1000 ?_)
          simp only [List.length_map, List.length_cons, List.length_nil, ins_length]
          omega
        refine q _ p6 ((s14.trans s5).trans (same_new hp6)) ((s14.trans s5).free hp6) ?_
        rw [upd_same, ins_length]
        rfl
end
end Wp

namespace Wp
open PySem PySem.Spec PyProof.Rows L2
open PySem.W (Codec)
/-- the desk stands at d -/
def DeskAt (CW CP CD : Addr) (Own : Addr → Prop) (H : Hp) (d : Addr) (wk : Uw05.Week) : Prop := ∃ dx a an ap as, H d = some (.ins CD dx (deskF a)) ∧ WeekAt CW CP Own H a wk an ap as ∧ Own d
/-! ### what each call leaves, in plain words -/
theorem step_begins_no {wk : Uw05.Week} {n : List Nat} (h : areN n = false) : Uw05.step wk (.begins n) = (wk, Uw05.ok (-1)) := by
  show (if n = [] ∨ Uw05.NIGHTS < n.length ∨ (n.all fun x => decide (x ≤ Uw05.HUNDRED)) = false then (wk, Uw05.ok (-1)) else (⟨n, []⟩, Uw05.ok (n.length : Nat))) = _
  refine if_pos ?_
  unfold areN at h
  rw [Bool.and_eq_false_iff, Bool.and_eq_false_iff] at h
  rcases h with (h | h) | h
  · refine .inl (List.length_eq_zero_iff.mp ?_)
    have := of_decide_eq_false h
    omega
  · have := of_decide_eq_false h
    exact .inr (.inl (by show 6 < n.length; omega))
  · exact .inr (.inr h)
theorem areN_yes {n : List Nat} (h : areN n = true) : 1 ≤ n.length ∧ n.length ≤ 6 ∧ (n.all fun x => decide (x ≤ 300)) = true := by
  unfold areN at h
  rw [Bool.and_eq_true, Bool.and_eq_true] at h
  exact ⟨of_decide_eq_true h.1.1, of_decide_eq_true h.1.2, h.2⟩
theorem step_begins_yes {wk : Uw05.Week} {n : List Nat} (h : areN n = true) : Uw05.step wk (.begins n) = (⟨n, []⟩, Uw05.ok (n.length : Nat)) := by
  obtain ⟨h1, h2, h3⟩ := areN_yes h
  show (if n = [] ∨ Uw05.NIGHTS < n.length ∨ (n.all fun x => decide (x ≤ Uw05.HUNDRED)) = false then (wk, Uw05.ok (-1)) else (⟨n, []⟩, Uw05.ok (n.length : Nat))) = _
  refine if_neg ?_
  rintro (q | q | q)
  · rw [q] at h1
    exact absurd h1 (by decide)
  · have q' : 6 < n.length := q
    omega
  · have q' : (n.all fun x => decide (x ≤ 300)) = false := q
    rw [h3] at q'
    cases q'
theorem ok_begins' {n : List Nat} (h : areN n = true) : Ok ⟨n, []⟩ := by
  obtain ⟨h1, h2, h3⟩ := areN_yes h
  exact ⟨h2, fun x hx => of_decide_eq_true (List.all_eq_true.mp h3 x hx), Nat.zero_le _, fun p hp => by cases hp⟩
section
variable {P : Program} {w : World} {K : PySem.W.Frag} {mg : Str → Option Value} {base : Heap} {CW CP CD : Addr}
/-! ### begins -/
abbrev sBegins : Stmt := top 38
def spBegins (CW CP CD : Addr) (K : PySem.W.Frag) : Sp := fun vs H Q _ => ∃ (Own : Addr → Prop) (d : Addr) (wk : Uw05.Week) (l : Addr) (n : List Nat), vs = [.ref d, .ref l] ∧ DeskAt CW CP CD Own H d wk ∧ (∀ x, H x = Option.none → Own x) ∧
  SqL K H l (nv n) ∧ n.length ≤ 1000 ∧ (∃ xs, H l = some (.lst xs)) ∧ ∀ H' p, DeskAt CW CP CD Own H' d (Uw05.step wk (.begins n)).1 → (∀ x o, H x = some o → ¬ Own x → H' x = some o) → (∀ x o, H x = some o → ¬ Own x → x ≠ p) → H' p = some (.lst ((nums wk (.begins n)).map V.int)) → Q (.ref p) H'
theorem scBegins : FnScope ["desk", "come"] ["desk", "come"] (defScope sBegins) := ⟨rfl, rfl, rfl, by decide +kernel, rfl, by decide +kernel, by decide +kernel⟩
theorem DeskAt.keep {Own : Addr → Prop} {H H' : Hp} {d : Addr} {wk : Uw05.Week} (h : DeskAt CW CP CD Own H d wk) (s : Same H H') : DeskAt CW CP CD Own H' d wk := by
  obtain ⟨dx, a, an, ap, as, h1, h2, h3⟩ := h
  exact ⟨dx, a, an, ap, as, s _ _ h1, h2.same s, h3⟩
theorem ok_begins {f : Addr} {fd : FuncData} (F : Fun K "begins" "begins" sBegins f fd) (T : Txt K mg CW CP CD) (D1 : Has P w K mg base "are_nights" 2 ["come"] (spAre K areN)) (D2 : Makes P w K mg base "Week" CW 1 ["self", "nights"] (spWeekI CW)) :
    FnOk P w K mg base CX0 3 f fd ["desk", "come"] (spBegins CW CP CD K) := by
  refine F.ok scBegins (fun vs H Q E h => ?_) (fun cdv A outer s H vs Q E hr h => ?_)
  · obtain ⟨_, d, wk, l, n, rfl, _⟩ := h
    rfl
  · obtain ⟨Own, d, wk, l, n, rfl, hD, hOwn, hl, hn, ⟨xl, hll⟩, q⟩ := h
    refine ⟨_, pss_cons (ps_if (pt_not (pt_val (pe_def D1 hr rfl (pa_cons (pv 1) pa_nil)))) (pss_one (ps_ret (pe_lst (pa_cons (pe_gint T.notRight rfl) pa_nil)))) pss_nil)
      (pss_cons (ps_fld (pv 0) (pe_mk D2 hr rfl (pa_cons (pe_callTy call_list_of (by rfl) T.list (by decide +kernel) (pa_cons (pv 1) pa_nil)) pa_nil)) rfl)
      (pss_one (ps_ret (pe_lst (pa_cons (pe_callB call_len_seq (by rfl) T.len PySem.boot_len (pa_cons (pv 1) pa_nil)) pa_nil))))), ?_⟩
    refine ⟨_, rfl, l, n, rfl, hl, hn, fun H1 s1 => ⟨_, rfl, ?_⟩⟩
    have hOwn1 : ∀ x, H1 x = Option.none → Own x := fun x hx => hOwn x (s1.free hx)
    cases hN : areN n with
    | false =>
      unfold nums at q
      rw [step_begins_no hN] at q
      refine iteT ⟨(by show 1 ≤ sizeLine; decide), fun p hp => ?_⟩
      have s2 := s1.trans (same_new (o := .lst [V.int (-1)]) hp)
      refine q _ p (hD.keep s2) (fun x o e _ => s2 _ _ e) (fun x o e _ => ne_of_none (s1 _ _ e) hp) ?_
      rw [upd_same]
      rfl
    | true =>
      unfold nums at q
      rw [step_begins_yes hN] at q
      refine iteF ⟨_, rfl, l, _, rfl, .inl (s1.seq hl), fun an han => ?_⟩
      have s2 := same_new (o := .lst (nv n)) han
      intro a dw ha hdw hne
      refine ⟨a, dw, an, rfl, upd_same, fun H' ap h1 h2 h3 kp => ⟨rfl, ?_⟩⟩
      have ha0 := s2.free ha
      have hdw0 := s2.free hdw
      have hap0 : H1 ap = Option.none := by
        have h4 : ap ≠ a := fun z => by
          rw [z, upd_same] at h3
          cases h3
        rw [upd_ne h4] at h3
        have h5 : ap ≠ dw := fun z => by
          rw [z, upd_same] at h3
          cases h3
        rw [upd_ne h5] at h3
        exact s2.free h3
      have nan : an ≠ a := ne_of_none upd_same ha
      have nan2 : an ≠ dw := ne_of_none upd_same hdw
      have kp1 : ∀ x o, H1 x = some o → H' x = some o := fun x o e => by
        have z1 := ne_of_none e ha0
        have z2 := ne_of_none e hdw0
        exact kp _ _ (by rw [upd_ne z1, upd_ne z2]; exact s2 _ _ e) z1
      have hanH : H' an = some (.lst (nv n)) := kp _ _ (by rw [upd_ne nan, upd_ne nan2]; exact upd_same) nan
      have nad : an ≠ ap := fun z => by
        rw [z] at nan nan2
        rw [upd_ne nan, upd_ne nan2, z, upd_same] at h3
        cases h3
      obtain ⟨dx, a0, an0, ap0, as0, hd, W0, od⟩ := hD
      have hd' : H' d = some (.ins CD dx (deskF a0)) := kp1 _ _ (s1 _ _ hd)
      refine ⟨_, rfl, d, CD, dx, _, rfl, hd', T.clD, T.nWeek, (by show 1 < 1000; decide), ?_⟩
      have hputd : putF "week" (V.ref a) (deskF a0) = deskF a := put_here
      rw [hputd]
      have nda : a ≠ d := fun z => by
        rw [z] at ha0
        rw [s1 _ _ hd] at ha0
        cases ha0
      have ndan : an ≠ d := ne_of hanH hd' (by intro z; cases z)
      have ndap : ap ≠ d := ne_of h2 hd' (by intro z; cases z)
      have ndl : l ≠ d := ne_of hll hd (by intro z; cases z)
      have hl' : SqL K (upd H' d (.ins CD dx (deskF a))) l (nv n) := by
        have hx : ∀ o, H l = some o → upd H' d (.ins CD dx (deskF a)) l = some o := fun o e => by
          rw [upd_ne ndl]
          exact kp1 _ _ (s1 _ _ e)
        rcases hl with (h | ⟨o, h⟩) | h
        · exact .inl (.inl (hx _ h))
        · exact .inl (.inr ⟨o, hx _ h⟩)
        · exact .inr h
      refine ⟨_, rfl, l, _, rfl, .inl hl', (by show 1 ≤ sizeLine; decide), fun p hp => ?_⟩
      have s5 := same_new (o := .lst [V.int ((nv n).length : Int)]) hp
      refine q _ p ⟨dx, a, an, ap, [], s5 _ _ upd_same, WeekAt.same ?_ s5, od⟩ (fun x o e ho => ?_) (fun x o e ho => ?_) ?_
      · exact week_new (by rw [upd_ne nda]; exact h1) (by rw [upd_ne ndan]; exact hanH) (by rw [upd_ne ndap]; exact h2) nad (hOwn1 _ ha0) (hOwn1 _ han) (hOwn1 _ hap0) (ok_begins' hN)
      · have hxd : x ≠ d := fun z => ho (by rw [z]; exact od)
        exact s5 _ _ (by rw [upd_ne hxd]; exact kp1 _ _ (s1 _ _ e))
      · have hxd : x ≠ d := fun z => ho (by rw [z]; exact od)
        exact ne_of_none (by rw [upd_ne hxd]; exact kp1 _ _ (s1 _ _ e)) hp
      · rw [upd_same, nv_length]
        rfl
end
end Wp

namespace Wp
open PySem PySem.Spec PyProof.Rows L2
open PySem.W (Codec)
/-! ### stores on a week -/
section
variable {CW CP CD : Addr} {Own : Addr → Prop} {H H' : Hp} {a : Addr} {wk : Uw05.Week} {an ap : Addr} {as : List Addr}
theorem WeekAt.append (W : WeekAt CW CP Own H a wk an ap as) {x lb dx : Addr} {p : Uw05.Play} (hx : H' x = some (.ins CP dx (playF p lb))) (hb : H' lb = some (.lst (nv p.brings))) (n1 : lb ≠ an) (n2 : lb ≠ ap) (n3 : Own lb)
    (hap : H' ap = some (.lst (as.map V.ref ++ [V.ref x]))) (kp : ∀ q o, H q = some o → q ≠ ap → H' q = some o) (ok : Ok { wk with plays := wk.plays ++ [p] }) :
    WeekAt CW CP Own H' a { wk with plays := wk.plays ++ [p] } an ap (as ++ [x]) := by
  obtain ⟨⟨dw, hw⟩, hn, hp, hlen, hat, hdif, oa, on, op, _⟩ := W
  refine ⟨⟨dw, kp _ _ hw (ne_of hw hp (by intro z; cases z))⟩, kp _ _ hn hdif, ?_, ?_, fun j c p' hc hp' => ?_, hdif, oa, on, op, ok⟩
  · rw [hap, List.map_append]
    rfl
  · rw [List.length_append, List.length_append, hlen]
    rfl
  · by_cases hj : j < as.length
    · rw [List.getElem?_append_left hj] at hc
      have hp2 : (wk.plays ++ [p])[j]? = some p' := hp'
      rw [List.getElem?_append_left (by omega)] at hp2
      obtain ⟨ab, ⟨⟨d2, h1⟩, h2⟩, h3, h4, h5⟩ := hat j c p' hc hp2
      exact ⟨ab, ⟨⟨d2, kp _ _ h1 (ne_of h1 hp (by intro z; cases z))⟩, kp _ _ h2 h4⟩, h3, h4, h5⟩
    · have hp2 : (wk.plays ++ [p])[j]? = some p' := hp'
      by_cases hj2 : j = as.length
      · subst hj2
        rw [List.getElem?_append_right (Nat.le_refl _), Nat.sub_self] at hc
        rw [hlen, List.getElem?_append_right (Nat.le_refl _), Nat.sub_self] at hp2
        have e1 : x = c := Option.some.inj hc
        have e2 : p = p' := Option.some.inj hp2
        subst e1 e2
        exact ⟨lb, ⟨⟨dx, hx⟩, hb⟩, n1, n2, n3⟩
      · rw [List.getElem?_eq_none (by rw [List.length_append, List.length_singleton]; omega)] at hc
        cases hc
theorem WeekAt.setNight (W : WeekAt CW CP Own H a wk an ap as) {ns : List Nat} (hn' : H' an = some (.lst (nv ns))) (kp : ∀ q o, H q = some o → q ≠ an → H' q = some o) (ok : Ok { wk with nights := ns }) :
    WeekAt CW CP Own H' a { wk with nights := ns } an ap as := by
  obtain ⟨⟨dw, hw⟩, hn, hp, hlen, hat, hdif, oa, on, op, _⟩ := W
  refine ⟨⟨dw, kp _ _ hw (ne_of hw hn (by intro z; cases z))⟩, hn', kp _ _ hp (fun z => hdif z.symm), hlen, fun j c p' hc hp' => ?_, hdif, oa, on, op, ok⟩
  obtain ⟨ab, ⟨⟨d2, h1⟩, h2⟩, h3, h4, h5⟩ := hat j c p' hc hp'
  exact ⟨ab, ⟨⟨d2, kp _ _ h1 (ne_of h1 hn (by intro z; cases z))⟩, kp _ _ h2 h3⟩, h3, h4, h5⟩
theorem erase_map {α β : Type} (f : α → β) : ∀ (xs : List α) (j : Nat), (xs.map f).eraseIdx j = (xs.eraseIdx j).map f
  | [], _ => rfl
  | _ :: _, 0 => rfl
  | x :: xs, j + 1 => by
    show f x :: (xs.map f).eraseIdx j = f x :: (xs.eraseIdx j).map f
    rw [erase_map f xs j]
theorem WeekAt.drop (W : WeekAt CW CP Own H a wk an ap as) {k : Nat} (hk : k < as.length) (hap : H' ap = some (.lst ((as.eraseIdx k).map V.ref))) (kp : ∀ q o, H q = some o → q ≠ ap → H' q = some o) :
    WeekAt CW CP Own H' a { wk with plays := wk.plays.eraseIdx k } an ap (as.eraseIdx k) := by
  obtain ⟨⟨dw, hw⟩, hn, hp, hlen, hat, hdif, oa, on, op, ok⟩ := W
  refine ⟨⟨dw, kp _ _ hw (ne_of hw hp (by intro z; cases z))⟩, kp _ _ hn hdif, hap, ?_, fun j c p' hc hp' => ?_, hdif, oa, on, op, ?_⟩
  · show (as.eraseIdx k).length = (wk.plays.eraseIdx k).length
    rw [List.length_eraseIdx, List.length_eraseIdx, hlen]
  · have hp2 : (wk.plays.eraseIdx k)[j]? = some p' := hp'
    rw [List.getElem?_eraseIdx] at hc hp2
    have : ∃ j' : Nat, as[j']? = some c ∧ wk.plays[j']? = some p' := by
      by_cases h : j < k
      · rw [if_pos h] at hc hp2
        exact ⟨j, hc, hp2⟩
      · rw [if_neg h] at hc hp2
        exact ⟨j + 1, hc, hp2⟩
    obtain ⟨j', hc', hp3⟩ := this
    obtain ⟨ab, ⟨⟨d2, h1⟩, h2⟩, h3, h4, h5⟩ := hat j' c p' hc' hp3
    exact ⟨ab, ⟨⟨d2, kp _ _ h1 (ne_of h1 hp (by intro z; cases z))⟩, kp _ _ h2 h4⟩, h3, h4, h5⟩
  · refine ⟨ok.nl, ok.nv, ?_, fun p hp => ok.pb p (List.mem_of_mem_eraseIdx hp)⟩
    show (wk.plays.eraseIdx k).length ≤ 4
    have h1 := ok.pl
    rw [List.length_eraseIdx]
    split <;> omega
end
theorem SqL.past {K : PySem.W.Frag} {H H' : Hp} {a : Addr} {xs : List V} (h : SqL K H a xs) (s : ∀ o, H a = some o → H' a = some o) : SqL K H' a xs := by
  rcases h with (h | ⟨o, h⟩) | h
  · exact .inl (.inl (s _ h))
  · exact .inl (.inr ⟨o, s _ h⟩)
  · exact .inr h
section
variable {P : Program} {w : World} {K : PySem.W.Frag} {mg : Str → Option Value} {base : Heap} {CW CP CD : Addr}
/-! ### put_play -/
abbrev sPut : Stmt := top 39
def spPut (CW CP : Addr) (K : PySem.W.Frag) : Sp := fun vs H Q _ => ∃ (Own : Addr → Prop) (a : Addr) (wk : Uw05.Week) (an ap : Addr) (as : List Addr) (lw lb : Addr) (s t b m n : Nat) (l : List Nat), vs = [.ref a, .ref lw, .ref lb] ∧ WeekAt CW CP Own H a wk an ap as ∧
  SqL K H lw (nv [s, t, b, m, n]) ∧ SqL K H lb (nv l) ∧ l.length ≤ 1000 ∧ b ≤ 1 ∧ (∀ x, H x = Option.none → Own x) ∧
  ∀ H' p as', WeekAt CW CP Own H' a (Uw05.step wk (.play ⟨l, s, t, b == 1, m, n⟩)).1 an ap as' → (∀ x o, H x = some o → x ≠ an → x ≠ ap → H' x = some o) → (∀ x o, H x = some o → x ≠ an → x ≠ ap → x ≠ p) → H' p = some (.lst ((nums wk (.play ⟨l, s, t, b == 1, m, n⟩)).map V.int)) → Q (.ref p) H'
theorem scPut : FnScope ["week", "wholes", "brings"] ["week", "wholes", "brings"] (defScope sPut) := ⟨rfl, rfl, rfl, by decide +kernel, rfl, by decide +kernel, by decide +kernel⟩
theorem step_play_no {wk : Uw05.Week} {p : Uw05.Play} (h : Uw05.playOk wk p = false) : Uw05.step wk (.play p) = (wk, Uw05.ok (-1)) := if_pos h
theorem step_play_full {wk : Uw05.Week} {p : Uw05.Play} (h : Uw05.playOk wk p = true) (h2 : 4 ≤ wk.plays.length) : Uw05.step wk (.play p) = (wk, Uw05.ok (-5)) := by
  show (if Uw05.playOk wk p = false then _ else if Uw05.PLAYS ≤ wk.plays.length then _ else _) = _
  rw [if_neg (by rw [h]; intro z; cases z), if_pos (show Uw05.PLAYS ≤ wk.plays.length from h2)]
theorem step_play_yes {wk : Uw05.Week} {p : Uw05.Play} (h : Uw05.playOk wk p = true) (h2 : ¬ 4 ≤ wk.plays.length) : Uw05.step wk (.play p) = ({ wk with plays := wk.plays ++ [p] }, Uw05.ok (wk.plays.length + 1 : Nat)) := by
  show (if Uw05.playOk wk p = false then _ else if Uw05.PLAYS ≤ wk.plays.length then _ else _) = _
  rw [if_neg (by rw [h]; intro z; cases z), if_neg (show ¬ Uw05.PLAYS ≤ wk.plays.length from h2)]
theorem ok_play {wk : Uw05.Week} {p : Uw05.Play} (ok : Ok wk) (h : Uw05.playOk wk p = true) (h2 : ¬ 4 ≤ wk.plays.length) : Ok { wk with plays := wk.plays ++ [p] } := by
  refine ⟨ok.nl, ok.nv, ?_, fun q hq => ?_⟩
  · show (wk.plays ++ [p]).length ≤ 4
    rw [List.length_append, List.length_singleton]
    omega
  · rcases List.mem_append.mp hq with hq | hq
    · exact ok.pb q hq
    · rw [List.mem_singleton.mp hq]
      rw [playOk_eq, Bool.and_eq_true, Bool.and_eq_true, Bool.and_eq_true] at h
      have hb := h.1.2.2
      unfold areB at hb
      rw [Bool.and_eq_true, Bool.and_eq_true] at hb
      exact ⟨of_decide_eq_true hb.1.1, of_decide_eq_true hb.1.2⟩
theorem ok_put {f : Addr} {fd : FuncData} (F : Fun K "put_play" "put_play" sPut f fd) (T : Txt K mg CW CP CD) (D1 : Has P w K mg base "is_play" 3 ["week", "numbers", "brings"] (spIsPlay CW CP K)) (D2 : Makes P w K mg base "Play" CP 1 ["self", "numbers", "brings"] (spPlayI CP K)) :
    FnOk P w K mg base CX0 4 f fd ["week", "wholes", "brings"] (spPut CW CP K) := by
  refine F.ok scPut (fun vs H Q E h => ?_) (fun cdv A outer s H vs Q E hr h => ?_)
  · obtain ⟨_, a, wk, an, ap, as, lw, lb, s, t, b, m, n, l, rfl, _⟩ := h
    rfl
  · obtain ⟨Own, a, wk, an, ap, as, lw, lb, s, t, b, m, n, l, rfl, W, hlw, hlb, hn, hb1, hOwn, q⟩ := h
    have hr2 : Room 2 _ := hr.mono (by decide)
    refine ⟨_, pss_cons (ps_if (pt_not (pt_val (pe_def D1 hr rfl (pa_cons (pv 0) (pa_cons (pv 1) (pa_cons (pv 2) pa_nil)))))) (pss_one (ps_ret (pe_lst (pa_cons (pe_gint T.notRight rfl) pa_nil)))) pss_nil)
      (pss_cons (ps_if (pt_cmpR op_eq (pe_callB call_len_seq (by rfl) T.len PySem.boot_len (pa_cons (pe_fld (pv 0) rfl) pa_nil)) (pe_gint T.mostPlays rfl) (nomark _)) (pss_one (ps_ret (pe_lst (pa_cons (pe_gint T.full rfl) pa_nil)))) pss_nil)
      (pss_cons (ps_expr (pe_bm PySem.F.plainAttrs_list PySem.F.slot_list_append PySem.F.type_list_append mt_append (pe_fld (pv 0) rfl) (pa_cons (pe_mk D2 hr2 rfl (pa_cons (pv 1) (pa_cons (pe_callTy call_list_of (by rfl) T.list (by decide +kernel) (pa_cons (pv 2) pa_nil)) pa_nil))) pa_nil)))
      (pss_one (ps_ret (pe_lst (pa_cons (pe_callB call_len_seq (by rfl) T.len PySem.boot_len (pa_cons (pe_fld (pv 0) rfl) pa_nil)) pa_nil)))))), ?_⟩
    refine ⟨_, rfl, _, rfl, _, rfl, Own, a, wk, an, ap, as, lw, lb, s, t, b, m, n, l, rfl, W, hlw, hlb, hn, fun H1 s1 => ⟨_, rfl, ?_⟩⟩
    have W1 := W.same s1
    unfold nums at q
    cases hP : Uw05.playOk wk ⟨l, s, t, b == 1, m, n⟩ with
    | false =>
      rw [step_play_no hP] at q
      refine iteT ⟨(by show 1 ≤ sizeLine; decide), fun p hp => ?_⟩
      have s2 := s1.trans (same_new (o := .lst [V.int (-1)]) hp)
      refine q _ p as (W.same s2) (fun x o e _ _ => s2 _ _ e) (fun x o e _ _ => ne_of_none (s1 _ _ e) hp) ?_
      rw [upd_same]
      rfl
    | true =>
      obtain ⟨dw, hw⟩ := W1.ins
      have hl4 := W.ok.pl
      have elen : (as.map V.ref).length = wk.plays.length := by rw [List.length_map, W.len]
      refine iteF ⟨_, rfl, a, CW, dw, _, _, rfl, hw, T.clW, T.nPlays, weekF_plays an ap, ap, _, rfl, .inl (SqL.of W1.pls), rfl, _, rfl, ?_⟩
      by_cases h4 : 4 ≤ wk.plays.length
      · rw [step_play_full hP h4] at q
        refine ifT (eqT (by omega)) ⟨(by show 1 ≤ sizeLine; decide), fun p hp => ?_⟩
        have s2 := s1.trans (same_new (o := .lst [V.int (-5)]) hp)
        refine q _ p as (W.same s2) (fun x o e _ _ => s2 _ _ e) (fun x o e _ _ => ne_of_none (s1 _ _ e) hp) ?_
        rw [upd_same]
        rfl
      · rw [step_play_yes hP h4] at q
        refine ifF (eqF (by omega)) ?_
        refine ⟨_, rfl, a, CW, dw, _, _, rfl, hw, T.clW, T.nPlays, weekF_plays an ap, .inl ⟨rfl, _, SqL.of W1.pls⟩, _, rfl, _, rfl, lb, _, rfl, .inl (s1.seq hlb), fun lb2 hlb2 => ?_⟩
        have s2 := same_new (o := .lst (nv l)) hlb2
        intro x dx hx hdx hne
        have hx1 := s2.free hx
        have hdx1 := s2.free hdx
        have s3 : Same H1 (upd (upd (upd H1 lb2 (.lst (nv l))) dx (.own x)) x (.ins CP dx [])) := fun z o e => by
          rw [upd_ne (ne_of_none e hx1), upd_ne (ne_of_none e hdx1)]
          exact s2 _ _ e
        have nlx : lb2 ≠ x := ne_of_none upd_same hx
        have nldx : lb2 ≠ dx := ne_of_none upd_same hdx
        refine ⟨x, dx, lw, lb2, s, t, b, m, n, rfl, upd_same, s3.seq (s1.seq hlw), fun H4 h4x kp => ⟨rfl, ?_⟩⟩
        have k14 : ∀ z o, H1 z = some o → H4 z = some o := fun z o e => kp _ _ (s3 _ _ e) (ne_of_none e hx1)
        have hlb4 : H4 lb2 = some (.lst (nv l)) := kp _ _ (by rw [upd_ne nlx, upd_ne nldx]; exact upd_same) nlx
        refine ⟨ap, _, _, rfl, rfl, k14 _ _ W1.pls, (by rw [elen]; exact size_1000 (by omega)), ?_⟩
        have nap : ap ≠ x := ne_of_none W1.pls hx1
        have nalb : lb2 ≠ ap := fun z => by
          have := W1.pls
          rw [← z, hlb2] at this
          cases this
        have nanlb : lb2 ≠ an := fun z => by
          have := W1.nts
          rw [← z, hlb2] at this
          cases this
        have W4 : WeekAt CW CP Own (upd H4 ap (.lst (as.map V.ref ++ [V.ref x]))) a { wk with plays := wk.plays ++ [⟨l, s, t, b == 1, m, n⟩] } an ap (as ++ [x]) := by
          refine W1.append (lb := lb2) (dx := dx) ?_ ?_ nanlb nalb (hOwn _ (s1.free hlb2)) upd_same (fun z o e hz => by rw [upd_ne hz]; exact k14 _ _ e) (ok_play W.ok hP h4)
          · rw [upd_ne (fun z => nap z.symm), ← rawF_play hb1]
            exact h4x
          · rw [upd_ne nalb]
            exact hlb4
        have k4 : ∀ z o, H z = some o → z ≠ an → z ≠ ap → upd H4 ap (.lst (as.map V.ref ++ [V.ref x])) z = some o := fun z o e _ hz => by
          rw [upd_ne hz]
          exact k14 _ _ (s1 _ _ e)
        generalize upd H4 ap (.lst (as.map V.ref ++ [V.ref x])) = H5 at W4 k4 ⊢
        obtain ⟨dw5, hw5⟩ := W4.ins
        refine ⟨_, rfl, a, CW, dw5, _, _, rfl, hw5, T.clW, T.nPlays, weekF_plays an ap, ap, _, rfl, .inl (SqL.of W4.pls), (by show 1 ≤ sizeLine; decide), fun p hp => ?_⟩
        have s6 := same_new (o := .lst [V.int (((as ++ [x]).map V.ref).length : Int)]) hp
        refine q _ p (as ++ [x]) (W4.same s6) (fun z o e h1 h2 => s6 _ _ (k4 _ _ e h1 h2)) (fun z o e h1 h2 => ne_of_none (k4 _ _ e h1 h2) hp) ?_
        rw [upd_same, List.length_map, List.length_append, W.len]
        rfl
/-! ### night -/
abbrev sNight : Stmt := top 43
def spNight (CW CP : Addr) : Sp := fun vs H Q _ => ∃ (Own : Addr → Prop) (a : Addr) (wk : Uw05.Week) (an ap : Addr) (as : List Addr) (i n : Nat), vs = [.ref a, .int (i : Int), .int (n : Int)] ∧ WeekAt CW CP Own H a wk an ap as ∧
  ∀ H' p as', WeekAt CW CP Own H' a (Uw05.step wk (.night i n)).1 an ap as' → (∀ x o, H x = some o → x ≠ an → x ≠ ap → H' x = some o) → (∀ x o, H x = some o → x ≠ an → x ≠ ap → x ≠ p) → H' p = some (.lst ((nums wk (.night i n)).map V.int)) → Q (.ref p) H'
theorem scNight : FnScope ["week", "i", "come", "before"] ["week", "i", "come"] (defScope sNight) := ⟨rfl, rfl, rfl, by decide +kernel, rfl, by decide +kernel, by decide +kernel⟩
theorem step_night_none {wk : Uw05.Week} {i n : Nat} (h : wk.nights.length ≤ i) : Uw05.step wk (.night i n) = (wk, Uw05.ok (-2)) := if_pos h
theorem step_night_no {wk : Uw05.Week} {i n : Nat} (h : ¬ wk.nights.length ≤ i) (h2 : 300 < n) : Uw05.step wk (.night i n) = (wk, Uw05.ok (-1)) := by
  show (if wk.nights.length ≤ i then _ else if Uw05.HUNDRED < n then _ else _) = _
  rw [if_neg h, if_pos (show Uw05.HUNDRED < n from h2)]
theorem step_night_yes {wk : Uw05.Week} {i n : Nat} (h : ¬ wk.nights.length ≤ i) (h2 : ¬ 300 < n) : Uw05.step wk (.night i n) = ({ wk with nights := wk.nights.set i n }, Uw05.ok (wk.nights.getD i 0 : Nat)) := by
  show (if wk.nights.length ≤ i then _ else if Uw05.HUNDRED < n then _ else _) = _
  rw [if_neg h, if_neg (show ¬ Uw05.HUNDRED < n from h2)]
theorem nv_set (l : List Nat) (i n : Nat) : (nv l).set i (.int (n : Int)) = nv (l.set i n) := by
  unfold nv ins
  rw [List.map_set, List.map_set]
theorem ixN_nat {n i : Nat} (h : i < n) : ixN n (i : Int) = some i := by
  unfold ixN
  rw [if_pos (by omega), if_pos (by omega)]
  simp
theorem ok_night {f : Addr} {fd : FuncData} (F : Fun K "night" "night" sNight f fd) (T : Txt K mg CW CP CD) (D1 : Has P w K mg base "within" 1 ["number", "least", "most"] spWithin) : FnOk P w K mg base CX0 2 f fd ["week", "i", "come"] (spNight CW CP) := by
  refine F.ok scNight (fun vs H Q E h => ?_) (fun cdv A outer s H vs Q E hr h => ?_)
  · obtain ⟨_, a, wk, an, ap, as, i, n, rfl, _⟩ := h
    rfl
  · obtain ⟨Own, a, wk, an, ap, as, i, n, rfl, W, q⟩ := h
    refine ⟨_, pss_cons (ps_if (pt_not (pt_val (pe_def D1 hr rfl (pa_cons (pv 1) (pa_cons pe_int (pa_cons (pe_op op_sub (pe_callB call_len_seq (by rfl) T.len PySem.boot_len (pa_cons (pe_fld (pv 0) rfl) pa_nil)) pe_int) pa_nil)))))) (pss_one (ps_ret (pe_lst (pa_cons (pe_gint T.noneThere rfl) pa_nil)))) pss_nil)
      (pss_cons (ps_if (pt_cmpR op_gt (pv 2) (pe_gint T.mostCome rfl) (nomark _)) (pss_one (ps_ret (pe_lst (pa_cons (pe_gint T.notRight rfl) pa_nil)))) pss_nil)
      (pss_cons (ps_set (i := 3) scNight.nd rfl (.inl rfl) (pe_ix ix_list (pe_fld (pv 0) rfl) (pv 1) (fun _ _ => rfl)))
      (pss_cons (ps_asg (pv 2) (pg_sub (pe_fld (pv 0) rfl) (pv 1) set_list))
      (pss_one (ps_ret (pe_lst (pa_cons (pv 3) pa_nil))))))), ?_⟩
    obtain ⟨dw, hw⟩ := W.ins
    unfold nums at q
    refine ⟨_, rfl, _, rfl, a, CW, dw, _, _, rfl, hw, T.clW, T.nNights, weekF_nights an ap, an, _, rfl, .inl (SqL.of W.nts), _, _, rfl, rfl, _, _, _, rfl, _, rfl, ?_⟩
    rw [nv_length, decide_eq_true (show (0 : Int) ≤ (i : Int) by omega), Bool.true_and]
    by_cases h1 : wk.nights.length ≤ i
    · rw [step_night_none h1] at q
      rw [decide_eq_false (show ¬ (i : Int) ≤ (wk.nights.length : Int) - 1 by omega)]
      refine iteT ⟨(by show 1 ≤ sizeLine; decide), fun p hp => ?_⟩
      have s2 := same_new (o := .lst [V.int (-2)]) hp
      refine q _ p as (W.same s2) (fun x o e _ _ => s2 _ _ e) (fun x o e _ _ => ne_of_none e hp) ?_
      rw [upd_same]
      rfl
    · rw [decide_eq_true (show (i : Int) ≤ (wk.nights.length : Int) - 1 by omega)]
      refine iteF ⟨_, rfl, _, _, rfl, rfl, _, rfl, ?_⟩
      by_cases h2 : 300 < n
      · rw [step_night_no h1 h2] at q
        refine ifT (decide_eq_true (by omega)) ⟨(by show 1 ≤ sizeLine; decide), fun p hp => ?_⟩
        have s2 := same_new (o := .lst [V.int (-1)]) hp
        refine q _ p as (W.same s2) (fun x o e _ _ => s2 _ _ e) (fun x o e _ _ => ne_of_none e hp) ?_
        rw [upd_same]
        rfl
      · rw [step_night_yes h1 h2] at q
        have hi : i < wk.nights.length := by omega
        refine ifF (decide_eq_false (by omega)) ?_
        refine ⟨_, rfl, a, CW, dw, _, _, rfl, hw, T.clW, T.nNights, weekF_nights an ap, _, rfl, an, _, _, _, rfl, rfl, SqL.of W.nts, atI_nat (nv_atD hi), ?_⟩
        refine ⟨_, rfl, _, rfl, a, CW, dw, _, _, rfl, hw, T.clW, T.nNights, weekF_nights an ap, _, rfl, an, _, _, i, rfl, rfl, W.nts, ixN_nat (by rw [nv_length]; exact hi), ?_⟩
        rw [nv_set]
        have okn : Ok { wk with nights := wk.nights.set i n } := by
          refine ⟨?_, fun x hx => ?_, W.ok.pl, W.ok.pb⟩
          · show (wk.nights.set i n).length ≤ 6
            rw [List.length_set]
            exact W.ok.nl
          · rcases List.mem_or_eq_of_mem_set hx with hx | hx
            · exact W.ok.nv x hx
            · omega
        have W2 : WeekAt CW CP Own (upd H an (.lst (nv (wk.nights.set i n)))) a { wk with nights := wk.nights.set i n } an ap as := W.setNight upd_same (fun z o e hz => by rw [upd_ne hz]; exact e) okn
        refine ⟨_, rfl, (by show 1 ≤ sizeLine; decide), fun p hp => ?_⟩
        have s2 := same_new (o := .lst [V.int ((wk.nights.getD i 0 : Nat) : Int)]) hp
        refine q _ p as (W2.same s2) (fun x o e hx _ => s2 _ _ (by rw [upd_ne hx]; exact e)) (fun x o e hx _ => ne_of_none (by rw [upd_ne hx]; exact e) hp) ?_
        rw [upd_same]
        rfl
/-! ### drop -/
abbrev sDrop : Stmt := top 44
def spDrop (CW CP : Addr) : Sp := fun vs H Q _ => ∃ (Own : Addr → Prop) (a : Addr) (wk : Uw05.Week) (an ap : Addr) (as : List Addr) (k : Nat), vs = [.ref a, .int (k : Int)] ∧ WeekAt CW CP Own H a wk an ap as ∧
  ∀ H' p as', WeekAt CW CP Own H' a (Uw05.step wk (.drop k)).1 an ap as' → (∀ x o, H x = some o → x ≠ an → x ≠ ap → H' x = some o) → (∀ x o, H x = some o → x ≠ an → x ≠ ap → x ≠ p) → H' p = some (.lst ((nums wk (.drop k)).map V.int)) → Q (.ref p) H'
theorem scDrop : FnScope ["week", "k"] ["week", "k"] (defScope sDrop) := ⟨rfl, rfl, rfl, by decide +kernel, rfl, by decide +kernel, by decide +kernel⟩
theorem step_drop_no {wk : Uw05.Week} {k : Nat} (h : k < 1 ∨ wk.plays.length < k) : Uw05.step wk (.drop k) = (wk, Uw05.ok (-2)) := if_pos h
theorem step_drop_yes {wk : Uw05.Week} {k : Nat} (h : ¬ (k < 1 ∨ wk.plays.length < k)) : Uw05.step wk (.drop k) = ({ wk with plays := wk.plays.eraseIdx (k - 1) }, Uw05.ok (wk.plays.length - 1 : Nat)) := if_neg h
theorem seqIx {n k : Nat} (h1 : 1 ≤ k) (h : k ≤ n) : seqIndex? ((k : Int) - 1) n = some (k - 1) := by
  unfold seqIndex?
  have e : ¬ (k : Int) - 1 < 0 := by omega
  rw [if_neg e]
  have e2 : (decide (0 ≤ (k : Int) - 1) && decide ((k : Int) - 1 < (n : Int))) = true := by
    rw [Bool.and_eq_true]
    exact ⟨decide_eq_true (by omega), decide_eq_true (by omega)⟩
  show (if (decide (0 ≤ (k : Int) - 1) && decide ((k : Int) - 1 < (n : Int))) = true then some ((k : Int) - 1).toNat else none) = some (k - 1)
  rw [if_pos e2]
  congr 1
  omega
theorem ok_drop {f : Addr} {fd : FuncData} (F : Fun K "drop" "drop" sDrop f fd) (T : Txt K mg CW CP CD) (D1 : Has P w K mg base "within" 1 ["number", "least", "most"] spWithin) : FnOk P w K mg base CX0 2 f fd ["week", "k"] (spDrop CW CP) := by
  refine F.ok scDrop (fun vs H Q E h => ?_) (fun cdv A outer s H vs Q E hr h => ?_)
  · obtain ⟨_, a, wk, an, ap, as, k, rfl, _⟩ := h
    rfl
  · obtain ⟨Own, a, wk, an, ap, as, k, rfl, W, q⟩ := h
    refine ⟨_, pss_cons (ps_if (pt_not (pt_val (pe_def D1 hr rfl (pa_cons (pv 1) (pa_cons pe_int (pa_cons (pe_callB call_len_seq (by rfl) T.len PySem.boot_len (pa_cons (pe_fld (pv 0) rfl) pa_nil)) pa_nil)))))) (pss_one (ps_ret (pe_lst (pa_cons (pe_gint T.noneThere rfl) pa_nil)))) pss_nil)
      (pss_cons (ps_expr (pe_bm PySem.F.plainAttrs_list PySem.F.slot_list_pop PySem.F.type_list_pop mt_popAt (pe_fld (pv 0) rfl) (pa_cons (pe_op op_sub (pv 1) pe_int) pa_nil)))
      (pss_one (ps_ret (pe_lst (pa_cons (pe_callB call_len_seq (by rfl) T.len PySem.boot_len (pa_cons (pe_fld (pv 0) rfl) pa_nil)) pa_nil))))), ?_⟩
    obtain ⟨dw, hw⟩ := W.ins
    have elen : (as.map V.ref).length = wk.plays.length := by rw [List.length_map, W.len]
    have hl4 := W.ok.pl
    unfold nums at q
    refine ⟨_, rfl, _, rfl, a, CW, dw, _, _, rfl, hw, T.clW, T.nPlays, weekF_plays an ap, ap, _, rfl, .inl (SqL.of W.pls), _, _, _, rfl, _, rfl, ?_⟩
    rw [elen]
    by_cases h1 : k < 1 ∨ wk.plays.length < k
    · rw [step_drop_no h1] at q
      have e : (decide ((1 : Int) ≤ (k : Int)) && decide ((k : Int) ≤ (wk.plays.length : Int))) = false := by
        rw [Bool.and_eq_false_iff]
        rcases h1 with h1 | h1
        · exact .inl (decide_eq_false (by omega))
        · exact .inr (decide_eq_false (by omega))
      rw [e]
      refine iteT ⟨(by show 1 ≤ sizeLine; decide), fun p hp => ?_⟩
      have s2 := same_new (o := .lst [V.int (-2)]) hp
      refine q _ p as (W.same s2) (fun x o e _ _ => s2 _ _ e) (fun x o e _ _ => ne_of_none e hp) ?_
      rw [upd_same]
      rfl
    · rw [step_drop_yes h1] at q
      have e : (decide ((1 : Int) ≤ (k : Int)) && decide ((k : Int) ≤ (wk.plays.length : Int))) = true := by
        rw [Bool.and_eq_true]
        exact ⟨decide_eq_true (by omega), decide_eq_true (by omega)⟩
      rw [e]
      have hka : k - 1 < as.length := by
        rw [W.len]
        omega
      have hget : (as.map V.ref)[k - 1]? = some (V.ref as[k - 1]) := by
        rw [List.getElem?_map, List.getElem?_eq_getElem hka]
        rfl
      refine iteF ⟨_, rfl, a, CW, dw, _, _, rfl, hw, T.clW, T.nPlays, weekF_plays an ap, .inl ⟨rfl, _, SqL.of W.pls⟩, _, rfl, _, _, rfl, rfl, ap, _, _, k - 1, _, rfl, rfl, W.pls, by omega, by omega, seqIx (by omega) (by omega), hget, ?_⟩
      rw [erase_map]
      have W2 : WeekAt CW CP Own (upd H ap (.lst ((as.eraseIdx (k - 1)).map V.ref))) a { wk with plays := wk.plays.eraseIdx (k - 1) } an ap (as.eraseIdx (k - 1)) := W.drop hka upd_same (fun z o e hz => by rw [upd_ne hz]; exact e)
      obtain ⟨dw2, hw2⟩ := W2.ins
      refine ⟨_, rfl, a, CW, dw2, _, _, rfl, hw2, T.clW, T.nPlays, weekF_plays an ap, ap, _, rfl, .inl (SqL.of W2.pls), (by show 1 ≤ sizeLine; decide), fun p hp => ?_⟩
      have s3 := same_new (o := .lst [V.int (((as.eraseIdx (k - 1)).map V.ref).length : Int)]) hp
      refine q _ p _ (W2.same s3) (fun x o e _ hx => s3 _ _ (by rw [upd_ne hx]; exact e)) (fun x o e _ hx => ne_of_none (by rw [upd_ne hx]; exact e) hp) ?_
      rw [upd_same, List.length_map, List.length_eraseIdx, if_pos hka, W.len]
      rfl
end
end Wp

namespace Wp
open PySem PySem.Spec PyProof.Rows L2
open PySem.W (Codec)
section
variable {P : Program} {w : World} {K : PySem.W.Frag} {mg : Str → Option Value} {base : Heap} {CW CP CD : Addr}
/-! ### answered -/
abbrev sAnswered : Stmt := top 45
def spAnswered (CW CP CD : Addr) (K : PySem.W.Frag) : Sp := fun vs H Q _ => ∃ (Own : Addr → Prop) (d : Addr) (wk : Uw05.Week) (c : Uw05.Call) (kind : Nat) (wh so : List Nat) (lw ls : Addr), vs = [.ref d, .int (kind : Int), .ref lw, .ref ls] ∧ DeskAt CW CP CD Own H d wk ∧ (∀ x, H x = Option.none → Own x) ∧
  Is c kind wh so ∧ H lw = some (.lst (nv wh)) ∧ H ls = some (.lst (nv so)) ∧
  ∀ H' p, DeskAt CW CP CD Own H' d (Uw05.step wk c).1 → (∀ x o, H x = some o → ¬ Own x → H' x = some o) → (∀ x o, H x = some o → ¬ Own x → x ≠ p) → H' p = some (.lst ((nums wk c).map V.int)) → Q (.ref p) H'
theorem scAnswered : FnScope ["desk", "kind", "wholes", "some"] ["desk", "kind", "wholes", "some"] (defScope sAnswered) := ⟨rfl, rfl, rfl, by decide +kernel, rfl, by decide +kernel, by decide +kernel⟩
/-- a week changed, and so the desk -/
theorem desk_of {Own : Addr → Prop} {H H' : Hp} {d dx a : Addr} {wk wk' : Uw05.Week} {an ap : Addr} {as as' : List Addr} (hd : H d = some (.ins CD dx (deskF a))) (W : WeekAt CW CP Own H a wk an ap as) (od : Own d) (W' : WeekAt CW CP Own H' a wk' an ap as')
    (kp : ∀ x o, H x = some o → x ≠ an → x ≠ ap → H' x = some o) : DeskAt CW CP CD Own H' d wk' ∧ (∀ x o, H x = some o → ¬ Own x → H' x = some o) := by
  refine ⟨⟨dx, a, an, ap, as', kp _ _ hd (ne_of hd W.nts (by intro z; cases z)) (ne_of hd W.pls (by intro z; cases z)), W', od⟩, fun x o e ho => kp _ _ e (fun z => ho (by rw [z]; exact W.on)) (fun z => ho (by rw [z]; exact W.op))⟩
theorem step_check (wk : Uw05.Week) (b : Uw05.Bill) : (Uw05.step wk (.check b)).1 = wk := by
  show (if b.length ≠ wk.nights.length ∨ (b.all fun k => decide (k ≤ wk.plays.length)) = false then (wk, Uw05.ok (-1)) else (wk, match wk.wrong b with
    | none => ⟨1, Uw05.tell wk b⟩
    | some x => ⟨0, [[x.1, x.2]]⟩)).1 = wk
  split <;> rfl
theorem ok_answered {f : Addr} {fd : FuncData} (F : Fun K "answered" "answered" sAnswered f fd) (T : Txt K mg CW CP CD) (D1 : Has P w K mg base "begins" 3 ["desk", "come"] (spBegins CW CP CD K)) (D2 : Has P w K mg base "put_play" 4 ["week", "wholes", "brings"] (spPut CW CP K))
    (D3 : Has P w K mg base "best" 6 ["week"] (spBest CW CP K)) (D4 : Has P w K mg base "check" 5 ["week", "bill"] (spCheck CW CP K)) (D5 : Has P w K mg base "night" 2 ["week", "i", "come"] (spNight CW CP)) (D6 : Has P w K mg base "drop" 2 ["week", "k"] (spDrop CW CP)) :
    FnOk P w K mg base CX0 7 f fd ["desk", "kind", "wholes", "some"] (spAnswered CW CP CD K) := by
  refine F.ok scAnswered (fun vs H Q E h => ?_) (fun cdv A outer s H vs Q E hr h => ?_)
  · obtain ⟨_, d, wk, c, kind, wh, so, lw, ls, rfl, _⟩ := h
    rfl
  · obtain ⟨Own, d, wk, c, kind, wh, so, lw, ls, rfl, hD, hOwn, hIs, hlw, hls, q⟩ := h
    have hr2 : Room 2 _ := hr.mono (by decide)
    have hr3 : Room 3 _ := hr.mono (by decide)
    have hr4 : Room 4 _ := hr.mono (by decide)
    have hr5 : Room 5 _ := hr.mono (by decide)
    refine ⟨_, pss_cons (ps_if (pt_cmpR op_eq (pv 1) pe_int (nomark _)) (pss_one (ps_ret (pe_def D1 hr3 rfl (pa_cons (pv 0) (pa_cons (pv 3) pa_nil))))) pss_nil)
      (pss_cons (ps_if (pt_cmpR op_eq (pv 1) pe_int (nomark _)) (pss_one (ps_ret (pe_def D2 hr4 rfl (pa_cons (pe_fld (pv 0) rfl) (pa_cons (pv 2) (pa_cons (pv 3) pa_nil)))))) pss_nil)
      (pss_cons (ps_if (pt_cmpR op_eq (pv 1) pe_int (nomark _)) (pss_one (ps_ret (pe_def D3 hr rfl (pa_cons (pe_fld (pv 0) rfl) pa_nil)))) pss_nil)
      (pss_cons (ps_if (pt_cmpR op_eq (pv 1) pe_int (nomark _)) (pss_one (ps_ret (pe_def D4 hr5 rfl (pa_cons (pe_fld (pv 0) rfl) (pa_cons (pv 3) pa_nil))))) pss_nil)
      (pss_cons (ps_if (pt_cmpR op_eq (pv 1) pe_int (nomark _)) (pss_one (ps_ret (pe_def D5 hr2 rfl (pa_cons (pe_fld (pv 0) rfl) (pa_cons (pe_ix ix_list (pv 2) pe_int (fun _ _ => rfl)) (pa_cons (pe_ix ix_list (pv 2) pe_int (fun _ _ => rfl)) pa_nil)))))) pss_nil)
      (pss_one (ps_ret (pe_def D6 hr2 rfl (pa_cons (pe_fld (pv 0) rfl) (pa_cons (pe_ix ix_list (pv 2) pe_int (fun _ _ => rfl)) pa_nil))))))))), ?_⟩
    have hD0 := hD
    obtain ⟨dx, a, an, ap, as, hd, W, od⟩ := hD
    cases hIs with
    | begins s hs =>
      refine ⟨_, rfl, rfl, _, rfl, ifT (eqT rfl) ?_⟩
      exact ⟨_, rfl, _, rfl, Own, d, wk, ls, so, rfl, hD0, hOwn, SqL.of hls, by omega, ⟨_, hls⟩, q⟩
    | play s t b m n l hb hl =>
      refine ⟨_, rfl, rfl, _, rfl, ifF (eqF (by decide)) ⟨_, rfl, rfl, _, rfl, ifT (eqT rfl) ?_⟩⟩
      refine ⟨_, rfl, d, CD, dx, _, _, rfl, hd, T.clD, T.nWeek, deskF_week a, _, rfl, _, rfl, Own, a, wk, an, ap, as, lw, ls, s, t, b, m, n, so, rfl, W, SqL.of hlw, SqL.of hls, by omega, hb, hOwn, fun H' p as' W' kp kn hp => ?_⟩
      obtain ⟨h1, h2⟩ := desk_of hd W od W' kp
      exact q H' p h1 h2 (fun x o e ho => kn _ _ e (fun z => ho (by rw [z]; exact W.on)) (fun z => ho (by rw [z]; exact W.op))) hp
    | best =>
      refine ⟨_, rfl, rfl, _, rfl, ifF (eqF (by decide)) ⟨_, rfl, rfl, _, rfl, ifF (eqF (by decide)) ⟨_, rfl, rfl, _, rfl, ifT (eqT rfl) ?_⟩⟩⟩
      refine ⟨_, rfl, d, CD, dx, _, _, rfl, hd, T.clD, T.nWeek, deskF_week a, Own, a, wk, an, ap, as, rfl, W, fun H' p s hn hp => ?_⟩
      exact q H' p (hD0.keep s) (fun x o e _ => s _ _ e) (fun x o e _ => ne_of_none e hn) hp
    | check s hs =>
      refine ⟨_, rfl, rfl, _, rfl, ifF (eqF (by decide)) ⟨_, rfl, rfl, _, rfl, ifF (eqF (by decide)) ⟨_, rfl, rfl, _, rfl, ifF (eqF (by decide)) ⟨_, rfl, rfl, _, rfl, ifT (eqT rfl) ?_⟩⟩⟩⟩
      refine ⟨_, rfl, d, CD, dx, _, _, rfl, hd, T.clD, T.nWeek, deskF_week a, _, rfl, Own, a, wk, an, ap, as, ls, so, rfl, W, SqL.of hls, by omega, fun H' p s hn hp => ?_⟩
      exact q H' p (by rw [step_check]; exact hD0.keep s) (fun x o e _ => s _ _ e) (fun x o e _ => ne_of_none e hn) hp
    | night i n =>
      refine ⟨_, rfl, rfl, _, rfl, ifF (eqF (by decide)) ⟨_, rfl, rfl, _, rfl, ifF (eqF (by decide)) ⟨_, rfl, rfl, _, rfl, ifF (eqF (by decide)) ⟨_, rfl, rfl, _, rfl, ifF (eqF (by decide)) ⟨_, rfl, rfl, _, rfl, ifT (eqT rfl) ?_⟩⟩⟩⟩⟩
      refine ⟨_, rfl, d, CD, dx, _, _, rfl, hd, T.clD, T.nWeek, deskF_week a, _, rfl, lw, _, _, V.int (i : Int), rfl, rfl, SqL.of hlw, at_of (j := 0) rfl rfl, _, rfl, lw, _, _, V.int (n : Int), rfl, rfl, SqL.of hlw, at_of (j := 1) rfl rfl, Own, a, wk, an, ap, as, i, n, rfl, W, fun H' p as' W' kp kn hp => ?_⟩
      obtain ⟨h1, h2⟩ := desk_of hd W od W' kp
      exact q H' p h1 h2 (fun x o e ho => kn _ _ e (fun z => ho (by rw [z]; exact W.on)) (fun z => ho (by rw [z]; exact W.op))) hp
    | drop k =>
      refine ⟨_, rfl, rfl, _, rfl, ifF (eqF (by decide)) ⟨_, rfl, rfl, _, rfl, ifF (eqF (by decide)) ⟨_, rfl, rfl, _, rfl, ifF (eqF (by decide)) ⟨_, rfl, rfl, _, rfl, ifF (eqF (by decide)) ⟨_, rfl, rfl, _, rfl, ifF (eqF (by decide)) ?_⟩⟩⟩⟩⟩
      refine ⟨_, rfl, d, CD, dx, _, _, rfl, hd, T.clD, T.nWeek, deskF_week a, _, rfl, lw, _, _, V.int (k : Int), rfl, rfl, SqL.of hlw, at_of (j := 0) rfl rfl, Own, a, wk, an, ap, as, k, rfl, W, fun H' p as' W' kp kn hp => ?_⟩
      obtain ⟨h1, h2⟩ := desk_of hd W od W' kp
      exact q H' p h1 h2 (fun x o e ho => kn _ _ e (fun z => ho (by rw [z]; exact W.on)) (fun z => ho (by rw [z]; exact W.op))) hp
/-! ### answers -/
abbrev sAnswers : Stmt := top 46
def spAnswers (K : PySem.W.Frag) : Sp := fun vs H Q _ => ∃ (a : Addr) (l : List Int), vs = [.ref a] ∧ SqL K H a (l.map V.int) ∧ l.length ≤ 30000 ∧ PyUw05.answers_asked l = true ∧
  ∀ (H' : Hp) (p : Addr), H' p = some (.lst ((PyUw05.answers l).map V.int)) → Q (.ref p) H'
theorem scAnswers : FnScope ["calls", "desk", "found", "at", "kind", "end", "wholes", "some", "start", "numbers"] ["calls"] (defScope sAnswers) := ⟨rfl, rfl, rfl, by decide +kernel, rfl, by decide +kernel, by decide +kernel⟩
theorem cut_mid {xs : List V} {lo hi : Nat} {i j : Int} (ei : i = (lo : Int)) (ej : j = (hi : Int)) (h1 : lo ≤ hi) (h2 : hi ≤ xs.length) : cutV xs (some i) (some j) = (xs.drop lo).take (hi - lo) := by
  subst ei ej
  unfold cutV
  rw [HT.sIx_nat, HT.sIx_nat, Nat.min_eq_left h2, Nat.min_eq_left (Nat.le_trans h1 h2)]
theorem map_cut (l : List Int) (lo n : Nat) : ((l.map V.int).drop lo).take n = ((l.drop lo).take n).map V.int := by
  rw [← List.map_drop, ← List.map_take]
theorem int_at {l : List Int} {i : Nat} {z : Int} (h : l[i]? = some z) : (l.map V.int)[i]? = some (.int z) := by
  rw [List.getElem?_map, h]
  rfl
theorem ok_answers {f : Addr} {fd : FuncData} (F : Fun K "answers" "answers" sAnswers f fd) (T : Txt K mg CW CP CD) (D1 : Makes P w K mg base "Desk" CD 3 ["self"] (spDeskI CW CP CD)) (D2 : Has P w K mg base "answered" 7 ["desk", "kind", "wholes", "some"] (spAnswered CW CP CD K)) :
    FnOk P w K mg base CX0 8 f fd ["calls"] (spAnswers K) := by
  refine F.ok scAnswers (fun vs H Q E h => ?_) (fun cdv A outer s H vs Q E hr h => ?_)
  · obtain ⟨a, l, rfl, _⟩ := h
    rfl
  · obtain ⟨a, l, rfl, hS, hlen, hask, q⟩ := h
    have hr4 : Room 4 _ := hr.mono (by decide)
    refine ⟨_, pss_cons (ps_set (i := 1) scAnswers.nd rfl (.inl rfl) (pe_mk0 D1 hr4 rfl))
      (pss_cons (ps_set (i := 2) scAnswers.nd rfl (.inl rfl) (pe_lst pa_nil))
      (pss_cons (ps_set (i := 3) scAnswers.nd rfl (.inl rfl) pe_int)
      (pss_cons (ps_while PassesOwn.never (pt_cmpR op_lt (pv 3) (pe_callB call_len_seq (by rfl) T.len PySem.boot_len (pa_cons (pv 0) pa_nil)) (nomark _))
        (pss_cons (ps_set (i := 4) scAnswers.nd rfl (.inl rfl) (pe_ix ix_list (pv 0) (pv 3) (fun _ _ => rfl)))
        (pss_cons (ps_set (i := 5) scAnswers.nd rfl (.inl rfl) (pe_op op_add (pe_op op_add (pv 3) pe_int) (pe_ix ix_tup (pe_gtup T.wholes rfl) (pv 4) (fun _ _ => rfl))))
        (pss_cons (ps_set (i := 6) scAnswers.nd rfl (.inl rfl) (pe_slice sl_list (pv 0) (po_some (pe_op op_add (pv 3) pe_int)) (po_some (pv 5))))
        (pss_cons (ps_set (i := 7) scAnswers.nd rfl (.inl rfl) (pe_lst pa_nil))
        (Evl.pss_cut (ps_if (pt_cmpR op_eq (pe_ix ix_tup (pe_gtup T.lists rfl) (pv 4) (fun _ _ => rfl)) pe_int (nomark _))
          (pss_cons (ps_set (i := 8) scAnswers.nd rfl (.inl rfl) (pe_op op_add (pv 5) pe_int))
          (pss_cons (ps_set (i := 5) scAnswers.nd rfl (.inl rfl) (pe_op op_add (pv 8) (pe_ix ix_list (pv 0) (pv 5) (fun _ _ => rfl))))
          (pss_one (ps_set (i := 7) scAnswers.nd rfl (.inl rfl) (pe_slice sl_list (pv 0) (po_some (pv 8)) (po_some (pv 5))))))) pss_nil)
        (pss_cons (ps_set (i := 9) scAnswers.nd rfl (.inl rfl) (pe_def D2 hr rfl (pa_cons (pv 1) (pa_cons (pv 4) (pa_cons (pv 6) (pa_cons (pv 7) pa_nil))))))
        (pss_cons (ps_expr (pe_bm PySem.F.plainAttrs_list PySem.F.slot_list_append PySem.F.type_list_append mt_append (pv 2) (pa_cons (pe_callB call_len_seq (by rfl) T.len PySem.boot_len (pa_cons (pv 9) pa_nil)) pa_nil)))
        (pss_cons (ps_expr (pe_bm PySem.F.plainAttrs_list PySem.F.slot_list_extend PySem.F.type_list_extend mt_extend (pv 2) (pa_cons (pv 9) pa_nil)))
        (pss_one (ps_set (i := 3) scAnswers.nd rfl (.inl rfl) (pv 5))))))))))))
      (pss_one (ps_ret (pv 2)))))), ?_⟩
    have hbig : 10000000 < sizeLine := by decide
    obtain ⟨hR0, hsz⟩ := rest_start hask
    -- desk = Desk(); found = []; at = 0
    intro d dx hd0 hdx0 hne
    refine ⟨d, dx, rfl, upd_same, fun H1 wk0 an0 ap0 h1d hwk0 han0 hap0 hW0 kp0 => ⟨rfl, ?_⟩⟩
    have s01 : Same H H1 := Same.made hd0 hdx0 kp0
    have hfree : ∀ z, upd (upd H dx (.own d)) d (.ins CD dx []) z = Option.none → H z = Option.none := fun z hz => by
      have z1 : z ≠ d := fun e => by
        rw [e, upd_same] at hz
        cases hz
      rw [upd_ne z1] at hz
      have z2 : z ≠ dx := fun e => by
        rw [e, upd_same] at hz
        cases hz
      rw [upd_ne z2] at hz
      exact hz
    refine ⟨Nat.zero_le _, fun fnd hfnd => ?_⟩
    have s1f := same_new (o := .lst []) hfnd
    have hfnd0 : H fnd = Option.none := s01.free hfnd
    have Wf := hW0 (fun z => z ≠ fnd ∧ H z = Option.none)
    have nwk : wk0 ≠ fnd := fun z => by
      obtain ⟨dw, e⟩ := (hW0 (fun _ => True) trivial trivial trivial).ins
      rw [z, hfnd] at e
      cases e
    have nan : an0 ≠ fnd := fun z => by
      have e := (hW0 (fun _ => True) trivial trivial trivial).nts
      rw [z, hfnd] at e
      cases e
    have nap : ap0 ≠ fnd := fun z => by
      have e := (hW0 (fun _ => True) trivial trivial trivial).pls
      rw [z, hfnd] at e
      cases e
    have nd : d ≠ fnd := fun z => by
      rw [← z, h1d] at hfnd
      cases hfnd
    have hDesk : DeskAt CW CP CD (fun z => z ≠ fnd ∧ H z = Option.none) (upd H1 fnd (.lst [])) d Uw05.init :=
      DeskAt.keep ⟨dx, wk0, an0, ap0, [], h1d, Wf ⟨nwk, hfree _ hwk0⟩ ⟨nan, hfree _ han0⟩ ⟨nap, hfree _ hap0⟩, nd, hd0⟩ s1f
    have s0 := s01.trans s1f
    have hf0 : upd H1 fnd (.lst []) fnd = some (.lst (([] : List Int).map V.int)) := upd_same
    generalize upd H1 fnd (.lst []) = H2 at hDesk s0 hf0 ⊢
    -- while at < len(calls)
    refine ⟨fun m σ H' => ∃ (at_ : Nat) (wk : Uw05.Week) (out rest : List Int) (v4 v5 v6 v7 v8 v9 : Option V), σ = [some (.ref a), some (.ref d), some (.ref fnd), some (.int (at_ : Int)), v4, v5, v6, v7, v8, v9] ∧ m = l.length - at_ ∧ Same H H' ∧
      DeskAt CW CP CD (fun z => z ≠ fnd ∧ H z = Option.none) H' d wk ∧ H' fnd = some (.lst (out.map V.int)) ∧ Rest l at_ wk rest ∧ PyUw05.answers l = out ++ rest, ⟨_, 0, Uw05.init, [], PyUw05.answers l, none, none, none, none, none, none, rfl, rfl, s0, hDesk, hf0, hR0, rfl⟩, ?_⟩
    rintro m σ H3 ⟨at_, wk, out, rest, v4, v5, v6, v7, v8, v9, rfl, rfl, s3, hD3, hf3, hR3, hout⟩
    refine ⟨_, rfl, _, rfl, a, _, rfl, .inl (s3.seq hS), _, _, rfl, rfl, _, rfl, ?_⟩
    rw [List.length_map]
    by_cases hat : at_ < l.length
    rotate_left
    · -- the end
      refine ifF (decide_eq_false (by omega)) ⟨_, rfl, ?_⟩
      have hr0 := rest_end hR3 (by omega)
      refine q H3 fnd ?_
      rw [hout, hr0, List.append_nil]
      exact hf3
    refine ifT (decide_eq_true (by omega)) ⟨fun σ' H' => ∃ (at_' : Nat) (wk : Uw05.Week) (out rest : List Int) (v4 v5 v6 v7 v8 v9 : Option V), σ' = [some (.ref a), some (.ref d), some (.ref fnd), some (.int (at_' : Int)), v4, v5, v6, v7, v8, v9] ∧ l.length - at_' < l.length - at_ ∧ Same H H' ∧
      DeskAt CW CP CD (fun z => z ≠ fnd ∧ H z = Option.none) H' d wk ∧ H' fnd = some (.lst (out.map V.int)) ∧ Rest l at_' wk rest ∧ PyUw05.answers l = out ++ rest, ?_, ?_⟩
    · rintro σ' H' ⟨at_', wk', out', rest', w4, w5, w6, w7, w8, w9, e1, e2, e3⟩
      exact ⟨_, e2, at_', wk', out', rest', w4, w5, w6, w7, w8, w9, e1, rfl, e3⟩
    obtain ⟨kind, wh, so, nx, c, hL, hIs, rest', hR', hrest⟩ := rest_turn hR3 hat
    have hwl := hL.wlen
    have hSa : SqL K H3 a (l.map V.int) := s3.seq hS
    have hle := hL.le
    -- kind, end, wholes, some
    refine ⟨_, rfl, _, rfl, a, _, _, _, rfl, rfl, hSa, atI_nat (int_at hL.here), ?_⟩
    refine ⟨_, rfl, _, _, rfl, rfl, fun aW hW => ⟨_, rfl, aW, _, _, _, rfl, rfl, hW, atI_nat (nv_atD (show kind < wholesN.length from hL.low)), _, _, rfl, rfl, ?_⟩⟩
    rw [← hwl]
    have hnx : at_ + 1 + wh.length ≤ nx := by
      by_cases h1 : listsN.getD kind 0 = 1
      · obtain ⟨_, _, e⟩ := hL.one h1
        omega
      · obtain ⟨_, e⟩ := hL.no h1
        omega
    have ecut : cutV (l.map V.int) (some ((at_ : Int) + 1)) (some ((at_ : Int) + 1 + (wh.length : Int))) = nv wh := by
      rw [cut_mid (lo := at_ + 1) (hi := at_ + 1 + wh.length) (by omega) (by omega) (by omega) (by rw [List.length_map]; omega), map_cut, show at_ + 1 + wh.length - (at_ + 1) = wh.length by omega, hL.whs]
    refine ⟨_, rfl, _, rfl, _, _, rfl, rfl, _, rfl, _, rfl, _, rfl, a, _, rfl, hSa, fun p1 hp1 => ?_⟩
    rw [ecut]
    have t1 := same_new (o := .lst (nv wh)) hp1
    have h1p : upd H3 p1 (.lst (nv wh)) p1 = some (.lst (nv wh)) := upd_same
    refine ⟨Nat.zero_le _, fun p2 hp2 => ?_⟩
    have t2 := same_new (o := .lst []) hp2
    have h2p : upd (upd H3 p1 (.lst (nv wh))) p2 (.lst []) p2 = some (.lst []) := upd_same
    have t12 := t1.trans t2
    have h1p2 := t2 _ _ h1p
    generalize upd (upd H3 p1 (.lst (nv wh))) p2 (.lst []) = H4 at h2p t12 h1p2 ⊢
    have hSa4 : SqL K H4 a (l.map V.int) := t12.seq hSa
    refine ⟨fun σ' H' => ∃ (ls : Addr) (v8 : Option V), σ' = [some (.ref a), some (.ref d), some (.ref fnd), some (.int (at_ : Int)), some (.int (kind : Int)), some (.int (nx : Int)), some (.ref p1), some (.ref ls), v8, v9] ∧ Same H3 H' ∧ H' p1 = some (.lst (nv wh)) ∧ H' ls = some (.lst (nv so)), ?_, ?_⟩
    · -- if LISTS[kind] == 1
      refine fun aL hLL => ⟨_, rfl, aL, _, _, _, rfl, rfl, hLL, atI_nat (nv_atD (show kind < listsN.length from hL.low)), rfl, _, rfl, ?_⟩
      by_cases h1 : listsN.getD kind 0 = 1
      · obtain ⟨g1, g2, g3⟩ := hL.one h1
        refine ifT (eqT (by omega)) ?_
        refine ⟨_, rfl, _, _, rfl, rfl, ?_⟩
        refine ⟨_, rfl, _, rfl, _, rfl, a, _, _, _, rfl, rfl, hSa4, at_of (j := at_ + 1 + wh.length) (by omega) (int_at g1), _, _, rfl, rfl, ?_⟩
        have ecut2 : cutV (l.map V.int) (some ((at_ : Int) + 1 + (wh.length : Int) + 1)) (some ((at_ : Int) + 1 + (wh.length : Int) + 1 + (so.length : Int))) = nv so := by
          rw [cut_mid (lo := at_ + 1 + wh.length + 1) (hi := nx) (by omega) (by omega) (by omega) (by rw [List.length_map]; exact hle), map_cut, show nx - (at_ + 1 + wh.length + 1) = so.length by omega, g2]
        refine ⟨_, rfl, _, rfl, _, rfl, _, rfl, _, rfl, a, _, rfl, hSa4, fun p3 hp3 => ?_⟩
        rw [ecut2]
        have t3 := same_new (o := .lst (nv so)) hp3
        refine ⟨p3, some (.int ((at_ : Int) + 1 + (wh.length : Int) + 1)), ?_, t12.trans t3, t3 _ _ h1p2, upd_same⟩
        have enx : (nx : Int) = (at_ : Int) + 1 + (wh.length : Int) + 1 + (so.length : Int) := by omega
        rw [enx]
        rfl
      · obtain ⟨g1, g2⟩ := hL.no h1
        refine ifF (eqF (by omega)) ?_
        refine ⟨p2, v8, ?_, t12, h1p2, by rw [g1]; exact h2p⟩
        have enx : (nx : Int) = (at_ : Int) + 1 + (wh.length : Int) := by omega
        rw [enx]
        rfl
    · -- numbers = answered(desk, kind, wholes, some); found.append(len(numbers)); found.extend(numbers); at = end
      rintro σ5 H5 ⟨ls, w8, rfl, s5, h5w, h5s⟩
      have hf5 : H5 fnd = some (.lst (out.map V.int)) := s5 _ _ hf3
      refine ⟨_, rfl, _, rfl, _, rfl, _, rfl, (fun z => z ≠ fnd ∧ H z = Option.none), d, wk, c, kind, wh, so, p1, ls, rfl, hD3.keep s5, fun z hz => ⟨fun e => ?_, (s3.trans s5).free hz⟩, hIs, h5w, h5s, fun H6 pn hD6 kp6 kn6 h6 => ?_⟩
      · rw [e, hf5] at hz
        cases hz
      have hf6 : H6 fnd = some (.lst (out.map V.int)) := kp6 _ _ hf5 (fun z => z.1 rfl)
      have s6 : Same H H6 := fun z o e => kp6 _ _ (s5 _ _ (s3 _ _ e)) (fun z' => by rw [z'.2] at e; cases e)
      have hln : out.length + (1 + ((nums wk c).length + rest'.length)) ≤ 10000000 := by
        have e := congrArg List.length hout
        rw [hrest, List.length_append, List.length_cons, List.length_append] at e
        omega
      have npf : pn ≠ fnd := fun z => kn6 _ _ hf5 (fun z => z.1 rfl) z.symm
      refine ⟨_, rfl, .inl ⟨rfl, _, SqL.of hf6⟩, _, rfl, pn, _, rfl, .inl (SqL.of h6), fnd, _, _, rfl, rfl, hf6, (by rw [List.length_map]; omega), ?_⟩
      refine ⟨_, rfl, .inl ⟨rfl, _, SqL.of upd_same⟩, _, rfl, fnd, pn, _, _, rfl, rfl, upd_same, (by rw [upd_ne npf]; exact h6), ?_, ?_⟩
      · simp only [List.length_append, List.length_map, List.length_cons, List.length_nil]
        omega
      refine ⟨_, rfl, nx, (Uw05.step wk c).1, out ++ (((nums wk c).length : Int) :: nums wk c), rest', _, _, _, _, _, _, rfl, by have := hL.lt; omega, ?_, ?_, ?_, hR', ?_⟩
      · intro z o e
        have zf : z ≠ fnd := ne_of_none e hfnd0
        rw [upd_ne zf, upd_ne zf]
        exact s6 _ _ e
      · obtain ⟨dx6, a6, an6, ap6, as6, g1, g2, g3⟩ := hD6
        have kp7 : ∀ z o, H6 z = some o → z ≠ fnd → upd (upd H6 fnd (.lst (out.map V.int ++ [V.int (((nums wk c).map V.int).length : Int)]))) fnd (.lst (out.map V.int ++ [V.int (((nums wk c).map V.int).length : Int)] ++ (nums wk c).map V.int)) z = some o := fun z o e hz => by
          rw [upd_ne hz, upd_ne hz]
          exact e
        exact ⟨dx6, a6, an6, ap6, as6, kp7 _ _ g1 g3.1, g2.past hf6 (fun z => z.1 rfl) kp7, g3⟩
      · rw [upd_same]
        simp only [List.map_append, List.map_cons, List.length_map, List.append_assoc]
        rfl
      · rw [hout, hrest, List.append_assoc]
        rfl
end
end Wp

namespace Wp
open PySem PySem.Spec PyProof.Rows L2
open PySem.W (Codec)
/-! ### what the top has written, def by def -/
/-- a def of the top -/
def Dn (K : PySem.W.Frag) (mg : Str → Option Value) (x : Str) (st : Stmt) : Prop := ∃ f fd, mg x = some (.ref f) ∧ Fun K x x st f fd
/-- a class of the top and its __init__ -/
def Cn (K : PySem.W.Frag) (mg : Str → Option Value) (x qual : Str) (st : Stmt) (C : Addr) : Prop := mg x = some (.ref C) ∧ ∃ f fd, Mk K C f ∧ Fun K "__init__" qual st f fd
theorem dn_mk {K : PySem.W.Frag} {h : Heap} {mg : Str → Option Value} {x : Str} {st : Stmt} {f : Addr} (X : K.In h) (G : h.Ns mainGlobals mg) {od an : Option Addr} {sl : Array (Option Value)} {oc kV dc pm cd ct : Value}
    (a : PySem.W.nsIn K mainGlobals x = some (some (.ref f))) (l : K.lookup f = some ⟨oc, od, .func (PySem.W.fnOf x x (defArgs st) (defBody st) (defScope st) .none kV dc pm an cd ct), sl⟩) (c : PySem.W.codeIn K cd x = true) (k : PySem.W.keepIn K (.ref f) = true) : Dn K mg x st :=
  ⟨f, _, PySem.W.mg_of X G a, fun_mk l c k⟩
theorem cn_mk {K : PySem.W.Frag} {h : Heap} {mg : Str → Option Value} {x qual : Str} {st : Stmt} {C f : Addr} (X : K.In h) (G : h.Ns mainGlobals mg) {od an : Option Addr} {sl : Array (Option Value)} {oc kV dc pm cd ct : Value}
    (aC : PySem.W.nsIn K mainGlobals x = some (some (.ref C))) (a : PySem.W.findIn K (.ref C) "__init__" = some (some (.ref f))) (i : PySem.W.isFn K (.ref f) = true) (l : K.lookup f = some ⟨oc, od, .func (PySem.W.fnOf "__init__" qual (defArgs st) (defBody st) (defScope st) .none kV dc pm an cd ct), sl⟩) (c : PySem.W.codeIn K cd qual = true) (k : PySem.W.keepIn K (.ref f) = true)
    (mk : PySem.W.makesIn K C = true) (kc : PySem.W.keepIn K (.ref C) = true) : Cn K mg x qual st C :=
  ⟨PySem.W.mg_of X G aC, f, _, ⟨mk, a, i, kc⟩, fun_mk l c k⟩
section
variable {P : Program} {w : World} {K : PySem.W.Frag} {mg : Str → Option Value} {base : Heap} {CW CP CD : Addr}
theorem Dn.has {x : Str} {st : Stmt} {k : Nat} {ps : List Str} {sp : Sp} (d : Dn K mg x st) (ok : ∀ {f : Addr} {fd : FuncData}, Fun K x x st f fd → FnOk P w K mg base CX0 k f fd ps sp)
    (h : ∀ (kV doc pm : Value) (an : Option Addr) (cdv ct : Value) (us : List Value), us.length = ps.length → bindArgs (PySem.W.fnOf x x (defArgs st) (defBody st) (defScope st) .none kV doc pm an cdv ct) ⟨us, []⟩ = pure (ps.zip us)) : Has P w K mg base x k ps sp := by
  obtain ⟨f, fd, g, F⟩ := d
  exact ⟨f, fd, g, ok F, F.kp, F.binds h⟩
theorem Cn.makes {x qual : Str} {st : Stmt} {C : Addr} {k : Nat} {ps : List Str} {sp : Sp} (d : Cn K mg x qual st C) (ok : ∀ {f : Addr} {fd : FuncData}, Fun K "__init__" qual st f fd → FnOk P w K mg base CX0 k f fd ps sp)
    (h : ∀ (kV doc pm : Value) (an : Option Addr) (cdv ct : Value) (us : List Value), us.length = ps.length → bindArgs (PySem.W.fnOf "__init__" qual (defArgs st) (defBody st) (defScope st) .none kV doc pm an cdv ct) ⟨us, []⟩ = pure (ps.zip us)) : Makes P w K mg base x C k ps sp := by
  obtain ⟨g, f, fd, M, F⟩ := d
  exact ⟨f, fd, g, M, ok F, F.binds h⟩
/-- all defs of the top -/
structure All (K : PySem.W.Frag) (mg : Str → Option Value) (CW CP CD : Addr) : Prop where
  txt : Txt K mg CW CP CD
  c11 : Cn K mg "Play" "Play.__init__" (inClass (top 11) 0) CP
  c12 : Cn K mg "Week" "Week.__init__" (inClass (top 12) 0) CW
  c36 : Cn K mg "Desk" "Desk.__init__" (inClass (top 36) 0) CD
  d13 : Dn K mg "within" (top 13)
  d14 : Dn K mg "are_nights" (top 14)
  d15 : Dn K mg "are_brings" (top 15)
  d16 : Dn K mg "is_play" (top 16)
  d17 : Dn K mg "play_of" (top 17)
  d18 : Dn K mg "is_bill" (top 18)
  d19 : Dn K mg "taken" (top 19)
  d20 : Dn K mg "takings" (top 20)
  d21 : Dn K mg "set_up_cost" (top 21)
  d22 : Dn K mg "strike_cost" (top 22)
  d23 : Dn K mg "work_of" (top 23)
  d24 : Dn K mg "left_of" (top 24)
  d25 : Dn K mg "does_run" (top 25)
  d26 : Dn K mg "wrong_with" (top 26)
  d27 : Dn K mg "longer_bills" (top 27)
  d28 : Dn K mg "right_bills" (top 28)
  d29 : Dn K mg "best_bills" (top 29)
  d37 : Dn K mg "told" (top 37)
  d38 : Dn K mg "begins" (top 38)
  d39 : Dn K mg "put_play" (top 39)
  d40 : Dn K mg "bill_told" (top 40)
  d41 : Dn K mg "best" (top 41)
  d42 : Dn K mg "check" (top 42)
  d43 : Dn K mg "night" (top 43)
  d44 : Dn K mg "drop" (top 44)
  d45 : Dn K mg "answered" (top 45)
theorem All.ok (D : All K mg CW CP CD) {f : Addr} {fd : FuncData} (F : Fun K "answers" "answers" (top 46) f fd) : FnOk P w K mg base CX0 8 f fd ["calls"] (spAnswers K) := by
  have T := D.txt
  have MP : Makes P w K mg base "Play" CP 1 ["self", "numbers", "brings"] (spPlayI CP K) := D.c11.makes (fun F => ok_playI F T) fun _ _ _ _ _ _ us hl => match us, hl with | [_, _, _], _ => rfl
  have MW : Makes P w K mg base "Week" CW 1 ["self", "nights"] (spWeekI CW) := D.c12.makes (fun F => ok_weekI F T) fun _ _ _ _ _ _ us hl => match us, hl with | [_, _], _ => rfl
  have MD : Makes P w K mg base "Desk" CD 3 ["self"] (spDeskI CW CP CD) := D.c36.makes (fun F => ok_deskI F T MW) fun _ _ _ _ _ _ us hl => match us, hl with | [_], _ => rfl
  have W13 : Has P w K mg base "within" 1 ["number", "least", "most"] spWithin := D.d13.has (fun F => ok_within F ) fun _ _ _ _ _ _ us hl => match us, hl with | [_, _, _], _ => rfl
  have W17 : Has P w K mg base "play_of" 1 ["week", "number"] (spPlayOf CW CP) := D.d17.has (fun F => ok_playOf F T) fun _ _ _ _ _ _ us hl => match us, hl with | [_, _], _ => rfl
  have W14 : Has P w K mg base "are_nights" 2 ["come"] (spAre K areN) := D.d14.has (fun F => ok_areN F T W13) fun _ _ _ _ _ _ us hl => match us, hl with | [_], _ => rfl
  have W15 : Has P w K mg base "are_brings" 2 ["brings"] (spAre K areB) := D.d15.has (fun F => ok_areB F T W13) fun _ _ _ _ _ _ us hl => match us, hl with | [_], _ => rfl
  have W16 : Has P w K mg base "is_play" 3 ["week", "numbers", "brings"] (spIsPlay CW CP K) := D.d16.has (fun F => ok_isPlay F T W15) fun _ _ _ _ _ _ us hl => match us, hl with | [_, _, _], _ => rfl
  have W18 : Has P w K mg base "is_bill" 1 ["week", "bill"] (spIsBill CW CP K) := D.d18.has (fun F => ok_isBill F T) fun _ _ _ _ _ _ us hl => match us, hl with | [_, _], _ => rfl
  have W19 : Has P w K mg base "taken" 2 ["week", "night", "number", "before"] (spTaken CW CP) := D.d19.has (fun F => ok_taken F T W17) fun _ _ _ _ _ _ us hl => match us, hl with | [_, _, _, _], _ => rfl
  have W20 : Has P w K mg base "takings" 3 ["week", "bill"] (spTakings CW CP K) := D.d20.has (fun F => ok_takings F T W19) fun _ _ _ _ _ _ us hl => match us, hl with | [_, _], _ => rfl
  have W21 : Has P w K mg base "set_up_cost" 2 ["week", "number", "before"] (spSetUp CW CP) := D.d21.has (fun F => ok_setUp F T W17) fun _ _ _ _ _ _ us hl => match us, hl with | [_, _, _], _ => rfl
  have W22 : Has P w K mg base "strike_cost" 2 ["week", "number", "behind"] (spStrike CW CP) := D.d22.has (fun F => ok_strike F T W17) fun _ _ _ _ _ _ us hl => match us, hl with | [_, _, _], _ => rfl
  have W23 : Has P w K mg base "work_of" 3 ["week", "bill"] (spWork CW CP K) := D.d23.has (fun F => ok_work F T W21 W22) fun _ _ _ _ _ _ us hl => match us, hl with | [_, _], _ => rfl
  have W24 : Has P w K mg base "left_of" 4 ["week", "bill"] (spLeft CW CP K) := D.d24.has (fun F => ok_left F T W20 W23) fun _ _ _ _ _ _ us hl => match us, hl with | [_, _], _ => rfl
  have W25 : Has P w K mg base "does_run" 2 ["week", "bill", "night"] (spRun CW CP K) := D.d25.has (fun F => ok_run F T W17) fun _ _ _ _ _ _ us hl => match us, hl with | [_, _, _], _ => rfl
  have W26 : Has P w K mg base "wrong_with" 3 ["week", "bill"] (spWrong CW CP K) := D.d26.has (fun F => ok_wrong F T W25 W17) fun _ _ _ _ _ _ us hl => match us, hl with | [_, _], _ => rfl
  have W27 : Has P w K mg base "longer_bills" 3 ["week", "bills"] (spLonger CW CP K) := D.d27.has (fun F => ok_longer F T W25) fun _ _ _ _ _ _ us hl => match us, hl with | [_, _], _ => rfl
  have W28 : Has P w K mg base "right_bills" 4 ["week"] (spRight CW CP K) := D.d28.has (fun F => ok_right F T W27 W26) fun _ _ _ _ _ _ us hl => match us, hl with | [_], _ => rfl
  have W29 : Has P w K mg base "best_bills" 5 ["week"] (spBests CW CP K) := D.d29.has (fun F => ok_bests F T W28 W24) fun _ _ _ _ _ _ us hl => match us, hl with | [_], _ => rfl
  have W37 : Has P w K mg base "told" 1 ["some"] (spTold K) := D.d37.has (fun F => ok_told F T) fun _ _ _ _ _ _ us hl => match us, hl with | [_], _ => rfl
  have W38 : Has P w K mg base "begins" 3 ["desk", "come"] (spBegins CW CP CD K) := D.d38.has (fun F => ok_begins F T W14 MW) fun _ _ _ _ _ _ us hl => match us, hl with | [_, _], _ => rfl
  have W39 : Has P w K mg base "put_play" 4 ["week", "wholes", "brings"] (spPut CW CP K) := D.d39.has (fun F => ok_put F T W16 MP) fun _ _ _ _ _ _ us hl => match us, hl with | [_, _, _], _ => rfl
  have W40 : Has P w K mg base "bill_told" 4 ["week", "bill"] (spBillTold CW CP K) := D.d40.has (fun F => ok_billTold F T W20 W37 W23) fun _ _ _ _ _ _ us hl => match us, hl with | [_, _], _ => rfl
  have W41 : Has P w K mg base "best" 6 ["week"] (spBest CW CP K) := D.d41.has (fun F => ok_best F T W29 W37 W40) fun _ _ _ _ _ _ us hl => match us, hl with | [_], _ => rfl
  have W42 : Has P w K mg base "check" 5 ["week", "bill"] (spCheck CW CP K) := D.d42.has (fun F => ok_check F T W18 W37 W40 W26) fun _ _ _ _ _ _ us hl => match us, hl with | [_, _], _ => rfl
  have W43 : Has P w K mg base "night" 2 ["week", "i", "come"] (spNight CW CP) := D.d43.has (fun F => ok_night F T W13) fun _ _ _ _ _ _ us hl => match us, hl with | [_, _, _], _ => rfl
  have W44 : Has P w K mg base "drop" 2 ["week", "k"] (spDrop CW CP) := D.d44.has (fun F => ok_drop F T W13) fun _ _ _ _ _ _ us hl => match us, hl with | [_, _], _ => rfl
  have W45 : Has P w K mg base "answered" 7 ["desk", "kind", "wholes", "some"] (spAnswered CW CP CD K) := D.d45.has (fun F => ok_answered F T W38 W39 W41 W42 W43 W44) fun _ _ _ _ _ _ us hl => match us, hl with | [_, _, _, _], _ => rfl
  exact ok_answers F T MD W45
end
section
variable {P : Program} {w : World}
/-- what the head's facts make of the text -/
theorem all_mk {K : PySem.W.Frag} {h : Heap} {mg : Str → Option Value} {fa CW CP CD : Addr} (X : K.In h) (G : h.Ns mainGlobals mg) (hfa : mg "answers" = some (.ref fa))
    {f11 : Addr} {od11 an11 : Option Addr} {sl11 : Array (Option Value)} {oc11 kV11 dc11 pm11 cd11 ct11 : Value}
    {f12 : Addr} {od12 an12 : Option Addr} {sl12 : Array (Option Value)} {oc12 kV12 dc12 pm12 cd12 ct12 : Value}
    {f36 : Addr} {od36 an36 : Option Addr} {sl36 : Array (Option Value)} {oc36 kV36 dc36 pm36 cd36 ct36 : Value}
    {t_hundred : Tok}
    {t_mostNights : Tok}
    {t_mostPlays : Tok}
    {t_mostCome : Tok}
    {t_mostMoney : Tok}
    {t_mostBrings : Tok}
    {t_dark : Tok}
    {t_runs : Tok}
    {t_seldom : Tok}
    {t_often : Tok}
    {t_notRight : Tok}
    {t_noneThere : Tok}
    {t_full : Tok}
    {f34 : Addr} {od34 : Option Addr} {sl34 : Array (Option Value)} {its34 : Array Value} {n34 : Nat}
    {f35 : Addr} {od35 : Option Addr} {sl35 : Array (Option Value)} {its35 : Array Value} {n35 : Nat}
    {f13 : Addr} {od13 an13 : Option Addr} {sl13 : Array (Option Value)} {oc13 kV13 dc13 pm13 cd13 ct13 : Value}
    {f14 : Addr} {od14 an14 : Option Addr} {sl14 : Array (Option Value)} {oc14 kV14 dc14 pm14 cd14 ct14 : Value}
    {f15 : Addr} {od15 an15 : Option Addr} {sl15 : Array (Option Value)} {oc15 kV15 dc15 pm15 cd15 ct15 : Value}
    {f16 : Addr} {od16 an16 : Option Addr} {sl16 : Array (Option Value)} {oc16 kV16 dc16 pm16 cd16 ct16 : Value}
    {f17 : Addr} {od17 an17 : Option Addr} {sl17 : Array (Option Value)} {oc17 kV17 dc17 pm17 cd17 ct17 : Value}
    {f18 : Addr} {od18 an18 : Option Addr} {sl18 : Array (Option Value)} {oc18 kV18 dc18 pm18 cd18 ct18 : Value}
    {f19 : Addr} {od19 an19 : Option Addr} {sl19 : Array (Option Value)} {oc19 kV19 dc19 pm19 cd19 ct19 : Value}
    {f20 : Addr} {od20 an20 : Option Addr} {sl20 : Array (Option Value)} {oc20 kV20 dc20 pm20 cd20 ct20 : Value}
    {f21 : Addr} {od21 an21 : Option Addr} {sl21 : Array (Option Value)} {oc21 kV21 dc21 pm21 cd21 ct21 : Value}
    {f22 : Addr} {od22 an22 : Option Addr} {sl22 : Array (Option Value)} {oc22 kV22 dc22 pm22 cd22 ct22 : Value}
    {f23 : Addr} {od23 an23 : Option Addr} {sl23 : Array (Option Value)} {oc23 kV23 dc23 pm23 cd23 ct23 : Value}
    {f24 : Addr} {od24 an24 : Option Addr} {sl24 : Array (Option Value)} {oc24 kV24 dc24 pm24 cd24 ct24 : Value}
    {f25 : Addr} {od25 an25 : Option Addr} {sl25 : Array (Option Value)} {oc25 kV25 dc25 pm25 cd25 ct25 : Value}
    {f26 : Addr} {od26 an26 : Option Addr} {sl26 : Array (Option Value)} {oc26 kV26 dc26 pm26 cd26 ct26 : Value}
    {f27 : Addr} {od27 an27 : Option Addr} {sl27 : Array (Option Value)} {oc27 kV27 dc27 pm27 cd27 ct27 : Value}
    {f28 : Addr} {od28 an28 : Option Addr} {sl28 : Array (Option Value)} {oc28 kV28 dc28 pm28 cd28 ct28 : Value}
    {f29 : Addr} {od29 an29 : Option Addr} {sl29 : Array (Option Value)} {oc29 kV29 dc29 pm29 cd29 ct29 : Value}
    {f37 : Addr} {od37 an37 : Option Addr} {sl37 : Array (Option Value)} {oc37 kV37 dc37 pm37 cd37 ct37 : Value}
    {f38 : Addr} {od38 an38 : Option Addr} {sl38 : Array (Option Value)} {oc38 kV38 dc38 pm38 cd38 ct38 : Value}
    {f39 : Addr} {od39 an39 : Option Addr} {sl39 : Array (Option Value)} {oc39 kV39 dc39 pm39 cd39 ct39 : Value}
    {f40 : Addr} {od40 an40 : Option Addr} {sl40 : Array (Option Value)} {oc40 kV40 dc40 pm40 cd40 ct40 : Value}
    {f41 : Addr} {od41 an41 : Option Addr} {sl41 : Array (Option Value)} {oc41 kV41 dc41 pm41 cd41 ct41 : Value}
    {f42 : Addr} {od42 an42 : Option Addr} {sl42 : Array (Option Value)} {oc42 kV42 dc42 pm42 cd42 ct42 : Value}
    {f43 : Addr} {od43 an43 : Option Addr} {sl43 : Array (Option Value)} {oc43 kV43 dc43 pm43 cd43 ct43 : Value}
    {f44 : Addr} {od44 an44 : Option Addr} {sl44 : Array (Option Value)} {oc44 kV44 dc44 pm44 cd44 ct44 : Value}
    {f45 : Addr} {od45 an45 : Option Addr} {sl45 : Array (Option Value)} {oc45 kV45 dc45 pm45 cd45 ct45 : Value}
    {f46 : Addr} {od46 an46 : Option Addr} {sl46 : Array (Option Value)} {oc46 kV46 dc46 pm46 cd46 ct46 : Value}
    (aC11 : PySem.W.nsIn K mainGlobals "Play" = some (some (.ref CP)))
    (a11 : PySem.W.findIn K (.ref CP) "__init__" = some (some (.ref f11)))
    (i11 : PySem.W.isFn K (.ref f11) = true)
    (l11 : K.lookup f11 = some ⟨oc11, od11, .func (PySem.W.fnOf "__init__" "Play.__init__" (defArgs (inClass (top 11) 0)) (defBody (inClass (top 11) 0)) (defScope (inClass (top 11) 0)) .none kV11 dc11 pm11 an11 cd11 ct11), sl11⟩)
    (c11 : PySem.W.codeIn K cd11 "Play.__init__" = true)
    (k11 : PySem.W.keepIn K (.ref f11) = true)
    (mk11 : PySem.W.makesIn K CP = true)
    (kc11 : PySem.W.keepIn K (.ref CP) = true)
    (pg11 : PySem.W.plainGet K CP Str.empty = true)
    (hd11 : PySem.W.hasDictIn K CP = true)
    (po11 : PySem.W.plainOver K CP = true)
    (sa11 : PySem.W.findIn K (.ref CP) "__setattr__" = some (some (.builtin "object.__setattr__")))
    (aC12 : PySem.W.nsIn K mainGlobals "Week" = some (some (.ref CW)))
    (a12 : PySem.W.findIn K (.ref CW) "__init__" = some (some (.ref f12)))
    (i12 : PySem.W.isFn K (.ref f12) = true)
    (l12 : K.lookup f12 = some ⟨oc12, od12, .func (PySem.W.fnOf "__init__" "Week.__init__" (defArgs (inClass (top 12) 0)) (defBody (inClass (top 12) 0)) (defScope (inClass (top 12) 0)) .none kV12 dc12 pm12 an12 cd12 ct12), sl12⟩)
    (c12 : PySem.W.codeIn K cd12 "Week.__init__" = true)
    (k12 : PySem.W.keepIn K (.ref f12) = true)
    (mk12 : PySem.W.makesIn K CW = true)
    (kc12 : PySem.W.keepIn K (.ref CW) = true)
    (pg12 : PySem.W.plainGet K CW Str.empty = true)
    (hd12 : PySem.W.hasDictIn K CW = true)
    (po12 : PySem.W.plainOver K CW = true)
    (sa12 : PySem.W.findIn K (.ref CW) "__setattr__" = some (some (.builtin "object.__setattr__")))
    (aC36 : PySem.W.nsIn K mainGlobals "Desk" = some (some (.ref CD)))
    (a36 : PySem.W.findIn K (.ref CD) "__init__" = some (some (.ref f36)))
    (i36 : PySem.W.isFn K (.ref f36) = true)
    (l36 : K.lookup f36 = some ⟨oc36, od36, .func (PySem.W.fnOf "__init__" "Desk.__init__" (defArgs (inClass (top 36) 0)) (defBody (inClass (top 36) 0)) (defScope (inClass (top 36) 0)) .none kV36 dc36 pm36 an36 cd36 ct36), sl36⟩)
    (c36 : PySem.W.codeIn K cd36 "Desk.__init__" = true)
    (k36 : PySem.W.keepIn K (.ref f36) = true)
    (mk36 : PySem.W.makesIn K CD = true)
    (kc36 : PySem.W.keepIn K (.ref CD) = true)
    (pg36 : PySem.W.plainGet K CD Str.empty = true)
    (hd36 : PySem.W.hasDictIn K CD = true)
    (po36 : PySem.W.plainOver K CD = true)
    (sa36 : PySem.W.findIn K (.ref CD) "__setattr__" = some (some (.builtin "object.__setattr__")))
    (nNights : PySem.W.findIn K (.ref CW) "nights" = some none)
    (nPlays : PySem.W.findIn K (.ref CW) "plays" = some none)
    (nSet : PySem.W.findIn K (.ref CP) "set_up" = some none)
    (nStrike : PySem.W.findIn K (.ref CP) "strike" = some none)
    (nRun : PySem.W.findIn K (.ref CP) "may_run" = some none)
    (nLeast : PySem.W.findIn K (.ref CP) "least" = some none)
    (nMost : PySem.W.findIn K (.ref CP) "most" = some none)
    (nBrings : PySem.W.findIn K (.ref CP) "brings" = some none)
    (nWeek : PySem.W.findIn K (.ref CD) "week" = some none)
    (hundred : PySem.W.nsIn K mainGlobals "HUNDRED" = some (some (.int 100 t_hundred)))
    (mostNights : PySem.W.nsIn K mainGlobals "MOST_NIGHTS" = some (some (.int 6 t_mostNights)))
    (mostPlays : PySem.W.nsIn K mainGlobals "MOST_PLAYS" = some (some (.int 4 t_mostPlays)))
    (mostCome : PySem.W.nsIn K mainGlobals "MOST_COME" = some (some (.int 300 t_mostCome)))
    (mostMoney : PySem.W.nsIn K mainGlobals "MOST_MONEY" = some (some (.int 100000 t_mostMoney)))
    (mostBrings : PySem.W.nsIn K mainGlobals "MOST_BRINGS" = some (some (.int 6 t_mostBrings)))
    (dark : PySem.W.nsIn K mainGlobals "DARK" = some (some (.int 0 t_dark)))
    (runs : PySem.W.nsIn K mainGlobals "RUNS" = some (some (.int 1 t_runs)))
    (seldom : PySem.W.nsIn K mainGlobals "SELDOM" = some (some (.int 2 t_seldom)))
    (often : PySem.W.nsIn K mainGlobals "OFTEN" = some (some (.int 3 t_often)))
    (notRight : PySem.W.nsIn K mainGlobals "NOT_RIGHT" = some (some (.int (-1) t_notRight)))
    (noneThere : PySem.W.nsIn K mainGlobals "NONE_THERE" = some (some (.int (-2) t_noneThere)))
    (full : PySem.W.nsIn K mainGlobals "FULL" = some (some (.int (-5) t_full)))
    (a34 : PySem.W.nsIn K mainGlobals "WHOLES" = some (some (.ref f34)))
    (l34 : K.lookup f34 = some ⟨.type "tuple", od34, .seq its34 n34, sl34⟩)
    (z34 : its34.size ≤ sizeLine)
    (v34 : Vals (nv wholesN) its34.toList)
    (a35 : PySem.W.nsIn K mainGlobals "LISTS" = some (some (.ref f35)))
    (l35 : K.lookup f35 = some ⟨.type "tuple", od35, .seq its35 n35, sl35⟩)
    (z35 : its35.size ≤ sizeLine)
    (v35 : Vals (nv listsN) its35.toList)
    (b_len : PySem.W.nsIn K mainGlobals "len" = some none)
    (b_range : PySem.W.nsIn K mainGlobals "range" = some none)
    (b_min : PySem.W.nsIn K mainGlobals "min" = some none)
    (b_list : PySem.W.nsIn K mainGlobals "list" = some none)
    (b_sum : PySem.W.nsIn K mainGlobals "sum" = some none)
    (a13 : PySem.W.nsIn K mainGlobals "within" = some (some (.ref f13)))
    (l13 : K.lookup f13 = some ⟨oc13, od13, .func (PySem.W.fnOf "within" "within" (defArgs (top 13)) (defBody (top 13)) (defScope (top 13)) .none kV13 dc13 pm13 an13 cd13 ct13), sl13⟩)
    (c13 : PySem.W.codeIn K cd13 "within" = true)
    (k13 : PySem.W.keepIn K (.ref f13) = true)
    (a14 : PySem.W.nsIn K mainGlobals "are_nights" = some (some (.ref f14)))
    (l14 : K.lookup f14 = some ⟨oc14, od14, .func (PySem.W.fnOf "are_nights" "are_nights" (defArgs (top 14)) (defBody (top 14)) (defScope (top 14)) .none kV14 dc14 pm14 an14 cd14 ct14), sl14⟩)
    (c14 : PySem.W.codeIn K cd14 "are_nights" = true)
    (k14 : PySem.W.keepIn K (.ref f14) = true)
    (a15 : PySem.W.nsIn K mainGlobals "are_brings" = some (some (.ref f15)))
    (l15 : K.lookup f15 = some ⟨oc15, od15, .func (PySem.W.fnOf "are_brings" "are_brings" (defArgs (top 15)) (defBody (top 15)) (defScope (top 15)) .none kV15 dc15 pm15 an15 cd15 ct15), sl15⟩)
    (c15 : PySem.W.codeIn K cd15 "are_brings" = true)
    (k15 : PySem.W.keepIn K (.ref f15) = true)
    (a16 : PySem.W.nsIn K mainGlobals "is_play" = some (some (.ref f16)))
    (l16 : K.lookup f16 = some ⟨oc16, od16, .func (PySem.W.fnOf "is_play" "is_play" (defArgs (top 16)) (defBody (top 16)) (defScope (top 16)) .none kV16 dc16 pm16 an16 cd16 ct16), sl16⟩)
    (c16 : PySem.W.codeIn K cd16 "is_play" = true)
    (k16 : PySem.W.keepIn K (.ref f16) = true)
    (a17 : PySem.W.nsIn K mainGlobals "play_of" = some (some (.ref f17)))
    (l17 : K.lookup f17 = some ⟨oc17, od17, .func (PySem.W.fnOf "play_of" "play_of" (defArgs (top 17)) (defBody (top 17)) (defScope (top 17)) .none kV17 dc17 pm17 an17 cd17 ct17), sl17⟩)
    (c17 : PySem.W.codeIn K cd17 "play_of" = true)
    (k17 : PySem.W.keepIn K (.ref f17) = true)
    (a18 : PySem.W.nsIn K mainGlobals "is_bill" = some (some (.ref f18)))
    (l18 : K.lookup f18 = some ⟨oc18, od18, .func (PySem.W.fnOf "is_bill" "is_bill" (defArgs (top 18)) (defBody (top 18)) (defScope (top 18)) .none kV18 dc18 pm18 an18 cd18 ct18), sl18⟩)
    (c18 : PySem.W.codeIn K cd18 "is_bill" = true)
    (k18 : PySem.W.keepIn K (.ref f18) = true)
    (a19 : PySem.W.nsIn K mainGlobals "taken" = some (some (.ref f19)))
    (l19 : K.lookup f19 = some ⟨oc19, od19, .func (PySem.W.fnOf "taken" "taken" (defArgs (top 19)) (defBody (top 19)) (defScope (top 19)) .none kV19 dc19 pm19 an19 cd19 ct19), sl19⟩)
    (c19 : PySem.W.codeIn K cd19 "taken" = true)
    (k19 : PySem.W.keepIn K (.ref f19) = true)
    (a20 : PySem.W.nsIn K mainGlobals "takings" = some (some (.ref f20)))
    (l20 : K.lookup f20 = some ⟨oc20, od20, .func (PySem.W.fnOf "takings" "takings" (defArgs (top 20)) (defBody (top 20)) (defScope (top 20)) .none kV20 dc20 pm20 an20 cd20 ct20), sl20⟩)
    (c20 : PySem.W.codeIn K cd20 "takings" = true)
    (k20 : PySem.W.keepIn K (.ref f20) = true)
    (a21 : PySem.W.nsIn K mainGlobals "set_up_cost" = some (some (.ref f21)))
    (l21 : K.lookup f21 = some ⟨oc21, od21, .func (PySem.W.fnOf "set_up_cost" "set_up_cost" (defArgs (top 21)) (defBody (top 21)) (defScope (top 21)) .none kV21 dc21 pm21 an21 cd21 ct21), sl21⟩)
    (c21 : PySem.W.codeIn K cd21 "set_up_cost" = true)
    (k21 : PySem.W.keepIn K (.ref f21) = true)
    (a22 : PySem.W.nsIn K mainGlobals "strike_cost" = some (some (.ref f22)))
    (l22 : K.lookup f22 = some ⟨oc22, od22, .func (PySem.W.fnOf "strike_cost" "strike_cost" (defArgs (top 22)) (defBody (top 22)) (defScope (top 22)) .none kV22 dc22 pm22 an22 cd22 ct22), sl22⟩)
    (c22 : PySem.W.codeIn K cd22 "strike_cost" = true)
    (k22 : PySem.W.keepIn K (.ref f22) = true)
    (a23 : PySem.W.nsIn K mainGlobals "work_of" = some (some (.ref f23)))
    (l23 : K.lookup f23 = some ⟨oc23, od23, .func (PySem.W.fnOf "work_of" "work_of" (defArgs (top 23)) (defBody (top 23)) (defScope (top 23)) .none kV23 dc23 pm23 an23 cd23 ct23), sl23⟩)
    (c23 : PySem.W.codeIn K cd23 "work_of" = true)
    (k23 : PySem.W.keepIn K (.ref f23) = true)
    (a24 : PySem.W.nsIn K mainGlobals "left_of" = some (some (.ref f24)))
    (l24 : K.lookup f24 = some ⟨oc24, od24, .func (PySem.W.fnOf "left_of" "left_of" (defArgs (top 24)) (defBody (top 24)) (defScope (top 24)) .none kV24 dc24 pm24 an24 cd24 ct24), sl24⟩)
    (c24 : PySem.W.codeIn K cd24 "left_of" = true)
    (k24 : PySem.W.keepIn K (.ref f24) = true)
    (a25 : PySem.W.nsIn K mainGlobals "does_run" = some (some (.ref f25)))
    (l25 : K.lookup f25 = some ⟨oc25, od25, .func (PySem.W.fnOf "does_run" "does_run" (defArgs (top 25)) (defBody (top 25)) (defScope (top 25)) .none kV25 dc25 pm25 an25 cd25 ct25), sl25⟩)
    (c25 : PySem.W.codeIn K cd25 "does_run" = true)
    (k25 : PySem.W.keepIn K (.ref f25) = true)
    (a26 : PySem.W.nsIn K mainGlobals "wrong_with" = some (some (.ref f26)))
    (l26 : K.lookup f26 = some ⟨oc26, od26, .func (PySem.W.fnOf "wrong_with" "wrong_with" (defArgs (top 26)) (defBody (top 26)) (defScope (top 26)) .none kV26 dc26 pm26 an26 cd26 ct26), sl26⟩)
    (c26 : PySem.W.codeIn K cd26 "wrong_with" = true)
    (k26 : PySem.W.keepIn K (.ref f26) = true)
    (a27 : PySem.W.nsIn K mainGlobals "longer_bills" = some (some (.ref f27)))
    (l27 : K.lookup f27 = some ⟨oc27, od27, .func (PySem.W.fnOf "longer_bills" "longer_bills" (defArgs (top 27)) (defBody (top 27)) (defScope (top 27)) .none kV27 dc27 pm27 an27 cd27 ct27), sl27⟩)
    (c27 : PySem.W.codeIn K cd27 "longer_bills" = true)
    (k27 : PySem.W.keepIn K (.ref f27) = true)
    (a28 : PySem.W.nsIn K mainGlobals "right_bills" = some (some (.ref f28)))
    (l28 : K.lookup f28 = some ⟨oc28, od28, .func (PySem.W.fnOf "right_bills" "right_bills" (defArgs (top 28)) (defBody (top 28)) (defScope (top 28)) .none kV28 dc28 pm28 an28 cd28 ct28), sl28⟩)
    (c28 : PySem.W.codeIn K cd28 "right_bills" = true)
    (k28 : PySem.W.keepIn K (.ref f28) = true)
    (a29 : PySem.W.nsIn K mainGlobals "best_bills" = some (some (.ref f29)))
    (l29 : K.lookup f29 = some ⟨oc29, od29, .func (PySem.W.fnOf "best_bills" "best_bills" (defArgs (top 29)) (defBody (top 29)) (defScope (top 29)) .none kV29 dc29 pm29 an29 cd29 ct29), sl29⟩)
    (c29 : PySem.W.codeIn K cd29 "best_bills" = true)
    (k29 : PySem.W.keepIn K (.ref f29) = true)
    (a37 : PySem.W.nsIn K mainGlobals "told" = some (some (.ref f37)))
    (l37 : K.lookup f37 = some ⟨oc37, od37, .func (PySem.W.fnOf "told" "told" (defArgs (top 37)) (defBody (top 37)) (defScope (top 37)) .none kV37 dc37 pm37 an37 cd37 ct37), sl37⟩)
    (c37 : PySem.W.codeIn K cd37 "told" = true)
    (k37 : PySem.W.keepIn K (.ref f37) = true)
    (a38 : PySem.W.nsIn K mainGlobals "begins" = some (some (.ref f38)))
    (l38 : K.lookup f38 = some ⟨oc38, od38, .func (PySem.W.fnOf "begins" "begins" (defArgs (top 38)) (defBody (top 38)) (defScope (top 38)) .none kV38 dc38 pm38 an38 cd38 ct38), sl38⟩)
    (c38 : PySem.W.codeIn K cd38 "begins" = true)
    (k38 : PySem.W.keepIn K (.ref f38) = true)
    (a39 : PySem.W.nsIn K mainGlobals "put_play" = some (some (.ref f39)))
    (l39 : K.lookup f39 = some ⟨oc39, od39, .func (PySem.W.fnOf "put_play" "put_play" (defArgs (top 39)) (defBody (top 39)) (defScope (top 39)) .none kV39 dc39 pm39 an39 cd39 ct39), sl39⟩)
    (c39 : PySem.W.codeIn K cd39 "put_play" = true)
    (k39 : PySem.W.keepIn K (.ref f39) = true)
    (a40 : PySem.W.nsIn K mainGlobals "bill_told" = some (some (.ref f40)))
    (l40 : K.lookup f40 = some ⟨oc40, od40, .func (PySem.W.fnOf "bill_told" "bill_told" (defArgs (top 40)) (defBody (top 40)) (defScope (top 40)) .none kV40 dc40 pm40 an40 cd40 ct40), sl40⟩)
    (c40 : PySem.W.codeIn K cd40 "bill_told" = true)
    (k40 : PySem.W.keepIn K (.ref f40) = true)
    (a41 : PySem.W.nsIn K mainGlobals "best" = some (some (.ref f41)))
    (l41 : K.lookup f41 = some ⟨oc41, od41, .func (PySem.W.fnOf "best" "best" (defArgs (top 41)) (defBody (top 41)) (defScope (top 41)) .none kV41 dc41 pm41 an41 cd41 ct41), sl41⟩)
    (c41 : PySem.W.codeIn K cd41 "best" = true)
    (k41 : PySem.W.keepIn K (.ref f41) = true)
    (a42 : PySem.W.nsIn K mainGlobals "check" = some (some (.ref f42)))
    (l42 : K.lookup f42 = some ⟨oc42, od42, .func (PySem.W.fnOf "check" "check" (defArgs (top 42)) (defBody (top 42)) (defScope (top 42)) .none kV42 dc42 pm42 an42 cd42 ct42), sl42⟩)
    (c42 : PySem.W.codeIn K cd42 "check" = true)
    (k42 : PySem.W.keepIn K (.ref f42) = true)
    (a43 : PySem.W.nsIn K mainGlobals "night" = some (some (.ref f43)))
    (l43 : K.lookup f43 = some ⟨oc43, od43, .func (PySem.W.fnOf "night" "night" (defArgs (top 43)) (defBody (top 43)) (defScope (top 43)) .none kV43 dc43 pm43 an43 cd43 ct43), sl43⟩)
    (c43 : PySem.W.codeIn K cd43 "night" = true)
    (k43 : PySem.W.keepIn K (.ref f43) = true)
    (a44 : PySem.W.nsIn K mainGlobals "drop" = some (some (.ref f44)))
    (l44 : K.lookup f44 = some ⟨oc44, od44, .func (PySem.W.fnOf "drop" "drop" (defArgs (top 44)) (defBody (top 44)) (defScope (top 44)) .none kV44 dc44 pm44 an44 cd44 ct44), sl44⟩)
    (c44 : PySem.W.codeIn K cd44 "drop" = true)
    (k44 : PySem.W.keepIn K (.ref f44) = true)
    (a45 : PySem.W.nsIn K mainGlobals "answered" = some (some (.ref f45)))
    (l45 : K.lookup f45 = some ⟨oc45, od45, .func (PySem.W.fnOf "answered" "answered" (defArgs (top 45)) (defBody (top 45)) (defScope (top 45)) .none kV45 dc45 pm45 an45 cd45 ct45), sl45⟩)
    (c45 : PySem.W.codeIn K cd45 "answered" = true)
    (k45 : PySem.W.keepIn K (.ref f45) = true)
    (a46 : PySem.W.nsIn K mainGlobals "answers" = some (some (.ref f46)))
    (l46 : K.lookup f46 = some ⟨oc46, od46, .func (PySem.W.fnOf "answers" "answers" (defArgs (top 46)) (defBody (top 46)) (defScope (top 46)) .none kV46 dc46 pm46 an46 cd46 ct46), sl46⟩)
    (c46 : PySem.W.codeIn K cd46 "answers" = true)
    (k46 : PySem.W.keepIn K (.ref f46) = true) :
    ∃ fd : FuncData, (∀ (s : Shared) (us : List Value), us.length = (["calls"] : List Str).length → BindsTo s fd ⟨us, []⟩ ((["calls"] : List Str).zip us)) ∧ ∀ base : Heap, K.In base → base.Ns mainGlobals mg → FnOk P w K mg base CX0 8 fa fd ["calls"] (spAnswers K) := by
  have e := hfa.symm.trans (PySem.W.mg_of X G a46)
  cases e
  have T : Txt K mg CW CP CD := ⟨⟨pg12, hd12, po12, sa12⟩, ⟨pg11, hd11, po11, sa11⟩, ⟨pg36, hd36, po36, sa36⟩, nNights, nPlays, nSet, nStrike, nRun, nLeast, nMost, nBrings, nWeek, ⟨_, PySem.W.mg_of X G hundred⟩, ⟨_, PySem.W.mg_of X G mostNights⟩, ⟨_, PySem.W.mg_of X G mostPlays⟩, ⟨_, PySem.W.mg_of X G mostCome⟩, ⟨_, PySem.W.mg_of X G mostMoney⟩, ⟨_, PySem.W.mg_of X G mostBrings⟩, ⟨_, PySem.W.mg_of X G dark⟩, ⟨_, PySem.W.mg_of X G runs⟩, ⟨_, PySem.W.mg_of X G seldom⟩, ⟨_, PySem.W.mg_of X G often⟩, ⟨_, PySem.W.mg_of X G notRight⟩, ⟨_, PySem.W.mg_of X G noneThere⟩, ⟨_, PySem.W.mg_of X G full⟩, ⟨_, PySem.W.mg_of X G a34, fun _ => .inr ⟨_, _, _, l34, rfl, rfl, z34, v34⟩⟩, ⟨_, PySem.W.mg_of X G a35, fun _ => .inr ⟨_, _, _, l35, rfl, rfl, z35, v35⟩⟩, PySem.W.mg_none_of X G b_len, PySem.W.mg_none_of X G b_range, PySem.W.mg_none_of X G b_min, PySem.W.mg_none_of X G b_list, PySem.W.mg_none_of X G b_sum⟩
  have D : All K mg CW CP CD := ⟨T,
    cn_mk X G aC11 a11 i11 l11 c11 k11 mk11 kc11,
    cn_mk X G aC12 a12 i12 l12 c12 k12 mk12 kc12,
    cn_mk X G aC36 a36 i36 l36 c36 k36 mk36 kc36,
    dn_mk X G a13 l13 c13 k13,
    dn_mk X G a14 l14 c14 k14,
    dn_mk X G a15 l15 c15 k15,
    dn_mk X G a16 l16 c16 k16,
    dn_mk X G a17 l17 c17 k17,
    dn_mk X G a18 l18 c18 k18,
    dn_mk X G a19 l19 c19 k19,
    dn_mk X G a20 l20 c20 k20,
    dn_mk X G a21 l21 c21 k21,
    dn_mk X G a22 l22 c22 k22,
    dn_mk X G a23 l23 c23 k23,
    dn_mk X G a24 l24 c24 k24,
    dn_mk X G a25 l25 c25 k25,
    dn_mk X G a26 l26 c26 k26,
    dn_mk X G a27 l27 c27 k27,
    dn_mk X G a28 l28 c28 k28,
    dn_mk X G a29 l29 c29 k29,
    dn_mk X G a37 l37 c37 k37,
    dn_mk X G a38 l38 c38 k38,
    dn_mk X G a39 l39 c39 k39,
    dn_mk X G a40 l40 c40 k40,
    dn_mk X G a41 l41 c41 k41,
    dn_mk X G a42 l42 c42 k42,
    dn_mk X G a43 l43 c43 k43,
    dn_mk X G a44 l44 c44 k44,
    dn_mk X G a45 l45 c45 k45⟩
  have F46 := fun_mk (st := top 46) l46 c46 k46
  exact ⟨PySem.W.fnOf "answers" "answers" (defArgs (top 46)) (defBody (top 46)) (defScope (top 46)) .none kV46 dc46 pm46 an46 cd46 ct46, fun s us hu => match us, hu with | [_], _ => .of_eq rfl, fun base _ _ => D.ok F46⟩
end
end Wp

open PySem PySem.W PyProof.Rows
set_option maxRecDepth 100000 in
set_option maxHeartbeats 0 in
theorem PySem.Challenge.cw_weekplays_s01_answers_holds : PySem.Challenge.rw_weekplays_s01_answers.Holds := by
  w_on; k_headS; (case hw => exact ⟨[.list [.int 2]], by decide +kernel, by decide +kernel⟩)
  k_fillS
  refine L2.walk_specK (r := PySem.Challenge.rw_weekplays_s01_answers) (k := 8) (CX := L2.CX0) (ps := ["calls"]) (sp := Wp.spAnswers) (by decide +kernel) rfl rfl ⟨rfl, by decide, by decide⟩ (fun w h Y => PySem.W.kIn_of Y) ?F ?S (fun _ _ _ _ z => z)
  case F =>
    intro w mg fa h Y KX G hmg
    refine' Wp.all_mk KX G hmg ?aC11 ?a11 ?i11 ?l11 ?c11 ?k11 ?mk11 ?kc11 ?pg11 ?hd11 ?po11 ?sa11 ?aC12 ?a12 ?i12 ?l12 ?c12 ?k12 ?mk12 ?kc12 ?pg12 ?hd12 ?po12 ?sa12 ?aC36 ?a36 ?i36 ?l36 ?c36 ?k36 ?mk36 ?kc36 ?pg36 ?hd36 ?po36 ?sa36 ?nNights ?nPlays ?nSet ?nStrike ?nRun ?nLeast ?nMost ?nBrings ?nWeek ?hundred ?mostNights ?mostPlays ?mostCome ?mostMoney ?mostBrings ?dark ?runs ?seldom ?often ?notRight ?noneThere ?full ?a34 ?l34 ?z34 ?v34 ?a35 ?l35 ?z35 ?v35 ?b_len ?b_range ?b_min ?b_list ?b_sum ?a13 ?l13 ?c13 ?k13 ?a14 ?l14 ?c14 ?k14 ?a15 ?l15 ?c15 ?k15 ?a16 ?l16 ?c16 ?k16 ?a17 ?l17 ?c17 ?k17 ?a18 ?l18 ?c18 ?k18 ?a19 ?l19 ?c19 ?k19 ?a20 ?l20 ?c20 ?k20 ?a21 ?l21 ?c21 ?k21 ?a22 ?l22 ?c22 ?k22 ?a23 ?l23 ?c23 ?k23 ?a24 ?l24 ?c24 ?k24 ?a25 ?l25 ?c25 ?k25 ?a26 ?l26 ?c26 ?k26 ?a27 ?l27 ?c27 ?k27 ?a28 ?l28 ?c28 ?k28 ?a29 ?l29 ?c29 ?k29 ?a37 ?l37 ?c37 ?k37 ?a38 ?l38 ?c38 ?k38 ?a39 ?l39 ?c39 ?k39 ?a40 ?l40 ?c40 ?k40 ?a41 ?l41 ?c41 ?k41 ?a42 ?l42 ?c42 ?k42 ?a43 ?l43 ?c43 ?k43 ?a44 ?l44 ?c44 ?k44 ?a45 ?l45 ?c45 ?k45 ?a46 ?l46 ?c46 ?k46
    (case aC11 => k_is)
    (case a11 => k_is)
    (case i11 => k_is)
    (case l11 => k_is)
    (case c11 => k_is)
    (case k11 => k_is)
    (case mk11 => k_is)
    (case kc11 => k_is)
    (case pg11 => k_is)
    (case hd11 => k_is)
    (case po11 => k_is)
    (case sa11 => k_is)
    (case aC12 => k_is)
    (case a12 => k_is)
    (case i12 => k_is)
    (case l12 => k_is)
    (case c12 => k_is)
    (case k12 => k_is)
    (case mk12 => k_is)
    (case kc12 => k_is)
    (case pg12 => k_is)
    (case hd12 => k_is)
    (case po12 => k_is)
    (case sa12 => k_is)
    (case aC36 => k_is)
    (case a36 => k_is)
    (case i36 => k_is)
    (case l36 => k_is)
    (case c36 => k_is)
    (case k36 => k_is)
    (case mk36 => k_is)
    (case kc36 => k_is)
    (case pg36 => k_is)
    (case hd36 => k_is)
    (case po36 => k_is)
    (case sa36 => k_is)
    (case nNights => k_is)
    (case nPlays => k_is)
    (case nSet => k_is)
    (case nStrike => k_is)
    (case nRun => k_is)
    (case nLeast => k_is)
    (case nMost => k_is)
    (case nBrings => k_is)
    (case nWeek => k_is)
    (case hundred => k_is)
    (case mostNights => k_is)
    (case mostPlays => k_is)
    (case mostCome => k_is)
    (case mostMoney => k_is)
    (case mostBrings => k_is)
    (case dark => k_is)
    (case runs => k_is)
    (case seldom => k_is)
    (case often => k_is)
    (case notRight => k_is)
    (case noneThere => k_is)
    (case full => k_is)
    (case a34 => k_is)
    (case l34 => k_is)
    (case z34 => decide +kernel)
    (case v34 => exact .cons ⟨_, rfl⟩ (.cons ⟨_, rfl⟩ (.cons ⟨_, rfl⟩ (.cons ⟨_, rfl⟩ (.cons ⟨_, rfl⟩ (.cons ⟨_, rfl⟩ .nil))))))
    (case a35 => k_is)
    (case l35 => k_is)
    (case z35 => decide +kernel)
    (case v35 => exact .cons ⟨_, rfl⟩ (.cons ⟨_, rfl⟩ (.cons ⟨_, rfl⟩ (.cons ⟨_, rfl⟩ (.cons ⟨_, rfl⟩ (.cons ⟨_, rfl⟩ .nil))))))
    (case b_len => k_is)
    (case b_range => k_is)
    (case b_min => k_is)
    (case b_list => k_is)
    (case b_sum => k_is)
    (case a13 => k_is)
    (case l13 => k_is)
    (case c13 => k_is)
    (case k13 => k_is)
    (case a14 => k_is)
    (case l14 => k_is)
    (case c14 => k_is)
    (case k14 => k_is)
    (case a15 => k_is)
    (case l15 => k_is)
    (case c15 => k_is)
    (case k15 => k_is)
    (case a16 => k_is)
    (case l16 => k_is)
    (case c16 => k_is)
    (case k16 => k_is)
    (case a17 => k_is)
    (case l17 => k_is)
    (case c17 => k_is)
    (case k17 => k_is)
    (case a18 => k_is)
    (case l18 => k_is)
    (case c18 => k_is)
    (case k18 => k_is)
    (case a19 => k_is)
    (case l19 => k_is)
    (case c19 => k_is)
    (case k19 => k_is)
    (case a20 => k_is)
    (case l20 => k_is)
    (case c20 => k_is)
    (case k20 => k_is)
    (case a21 => k_is)
    (case l21 => k_is)
    (case c21 => k_is)
    (case k21 => k_is)
    (case a22 => k_is)
    (case l22 => k_is)
    (case c22 => k_is)
    (case k22 => k_is)
    (case a23 => k_is)
    (case l23 => k_is)
    (case c23 => k_is)
    (case k23 => k_is)
    (case a24 => k_is)
    (case l24 => k_is)
    (case c24 => k_is)
    (case k24 => k_is)
    (case a25 => k_is)
    (case l25 => k_is)
    (case c25 => k_is)
    (case k25 => k_is)
    (case a26 => k_is)
    (case l26 => k_is)
    (case c26 => k_is)
    (case k26 => k_is)
    (case a27 => k_is)
    (case l27 => k_is)
    (case c27 => k_is)
    (case k27 => k_is)
    (case a28 => k_is)
    (case l28 => k_is)
    (case c28 => k_is)
    (case k28 => k_is)
    (case a29 => k_is)
    (case l29 => k_is)
    (case c29 => k_is)
    (case k29 => k_is)
    (case a37 => k_is)
    (case l37 => k_is)
    (case c37 => k_is)
    (case k37 => k_is)
    (case a38 => k_is)
    (case l38 => k_is)
    (case c38 => k_is)
    (case k38 => k_is)
    (case a39 => k_is)
    (case l39 => k_is)
    (case c39 => k_is)
    (case k39 => k_is)
    (case a40 => k_is)
    (case l40 => k_is)
    (case c40 => k_is)
    (case k40 => k_is)
    (case a41 => k_is)
    (case l41 => k_is)
    (case c41 => k_is)
    (case k41 => k_is)
    (case a42 => k_is)
    (case l42 => k_is)
    (case c42 => k_is)
    (case k42 => k_is)
    (case a43 => k_is)
    (case l43 => k_is)
    (case c43 => k_is)
    (case k43 => k_is)
    (case a44 => k_is)
    (case l44 => k_is)
    (case c44 => k_is)
    (case k44 => k_is)
    (case a45 => k_is)
    (case l45 => k_is)
    (case c45 => k_is)
    (case k45 => k_is)
    (case a46 => k_is)
    (case l46 => k_is)
    (case c46 => k_is)
    (case k46 => k_is)
  case S =>
    intro K H xs a hO hwi hask hx
    cases hx with
    | cons h1 h2 =>
      cases h2
      cases h1 with
      | lst hs ha =>
        have e := L2.ints_dw a.1 _ ha
        subst e
        have q : ((Codec.inLen 0 30000 a.1 && a.1.all (Codec.inInt 0 4294967295)) && true) = true := hwi
        rw [Bool.and_eq_true, Bool.and_eq_true] at q
        exact ⟨_, a.1, rfl, hs, (Codec.inNat_iff.mp q.1.1).2, hask, fun H' p hp => .lst (L2.SqL.of hp) (L2.dw_ints _)⟩
#print axioms PySem.Challenge.cw_weekplays_s01_answers_holds

