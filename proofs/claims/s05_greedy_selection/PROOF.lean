import PyProof.Rows.All
import Wide.All
import OpenK.AllK
import Wide.FinOn
import Open.SpecLaws
import KE.OsHead
import KE.OsGo
import HandS.ForMost
import HandS.ForSpec
import HandS.Style
import HandS.RevRange
import HandS.SortRule
import PySem.Challenge.RW_spreadpicks_s05_greedy_selection
set_option Elab.async false
set_option maxRecDepth 100000
set_option maxHeartbeats 4000000
namespace Sx
open Ks591 (Point Points pointAt)
/-! ### mirrors: what each def computes -/
def evens {α : Type} : List α → List α
  | [] => []
  | [x] => [x]
  | x :: _ :: r => x :: evens r
def odds {α : Type} : List α → List α
  | [] => []
  | [_] => []
  | _ :: y :: r => y :: odds r
def between (x lo hi : Int) : Bool := decide (lo ≤ x) && decide (x ≤ hi)
def allBetween (l : List Int) (lo hi : Int) : Bool := l.all fun x => between x lo hi
def rising (l : List Int) : Bool := (List.range (l.length - 1)).all fun k => decide (l.getD k 0 < l.getD (k + 1) 0)
def arePts (ns : List Int) : Bool :=
  decide (ns.length % 2 = 0) && decide (ns.length / 2 ≤ 12) && (allBetween (evens ns) 0 999 && rising (evens ns) && allBetween (odds ns) 0 99)
def okPts (sp : Int) (ns : List Int) : Bool := between sp 1 999 && arePts ns
def absI (d : Int) : Int := if d < 0 then -d else d
def conf (sp : Int) (ps : List Int) (i j : Nat) : Bool := decide (absI (ps.getD i 0 - ps.getD j 0) < sp)
def fits (sp : Int) (ps : List Int) (i : Nat) (t : List Nat) : Bool := t.all fun j => !conf sp ps i j
def members (m n : Nat) : List Nat := (List.range n).filter fun i => m.testBit i
def maskOf (t : List Nat) : Nat := (t.map fun i => 2 ^ i).sum
def wOf (ws : List Int) (m : Nat) : Int := ((members m ws.length).map fun i => ws.getD i 0).sum
def valid (sp : Int) (ps : List Int) (m : Nat) : Bool :=
  (List.range (members m ps.length).length).all fun k => fits sp ps ((members m ps.length).getD k 0) ((members m ps.length).take k)
def bestStep (sp : Int) (ps ws : List Int) (st : Nat × Int) (m : Nat) : Nat × Int :=
  if (decide (st.2 < wOf ws m) && valid sp ps m) = true then (m, wOf ws m) else st
def best (sp : Int) (ps ws : List Int) : Nat := ((List.range (2 ^ ps.length)).foldl (bestStep sp ps ws) (0, 0)).1
def countStep (sp : Int) (ps : List Int) (st : Nat) (m : Nat) : Nat :=
  if (decide (st < (members m ps.length).length) && valid sp ps m) = true then (members m ps.length).length else st
def count (sp : Int) (ps : List Int) : Nat := (List.range (2 ^ ps.length)).foldl (countStep sp ps) 0
def earlier (sp : Int) (ps : List Int) (i : Nat) : List Nat := (List.range i).filter fun j => conf sp ps i j
def earlierP (sp : Int) (ps pr : List Int) (i : Nat) : Int := ((earlier sp ps i).map fun j => pr.getD j 0).sum
def max0 (e : Int) : Int := if e > 0 then e else 0
def priceStep (sp : Int) (ps ws : List Int) (found : List Int) (i : Nat) : List Int := found ++ [max0 (ws.getD i 0 - earlierP sp ps found i)]
def computed (sp : Int) (ps ws : List Int) : List Int := (List.range ps.length).foldl (priceStep sp ps ws) []
def takeStep (sp : Int) (ps : List Int) (c : Nat → Bool) (t : List Nat) (i : Nat) : List Nat := if (c i && fits sp ps i t) = true then t ++ [i] else t
def priceTaken (sp : Int) (ps pr : List Int) : List Nat := (List.range ps.length).reverse.foldl (takeStep sp ps fun i => decide (0 < pr.getD i 0)) []
def sufficient (sp : Int) (ps ws pr : List Int) : Bool := (List.range ps.length).all fun i => decide (ws.getD i 0 ≤ pr.getD i 0 + earlierP sp ps pr i)
/-! ### points as the specification has them -/
def toPts : List Int → Points
  | p :: w :: r => ⟨p.toNat, w.toNat⟩ :: toPts r
  | _ => []
def posI (pts : Points) : List Int := pts.map fun p => (p.position : Int)
def wtI (pts : Points) : List Int := pts.map fun p => (p.weight : Int)
theorem posI_len (pts : Points) : (posI pts).length = pts.length := List.length_map ..
theorem wtI_len (pts : Points) : (wtI pts).length = pts.length := List.length_map ..
theorem posI_get (pts : Points) (i : Nat) : (posI pts).getD i 0 = ((pointAt pts i).position : Int) := by
  unfold posI pointAt
  rw [List.getD_eq_getElem?_getD, List.getD_eq_getElem?_getD, List.getElem?_map]
  cases pts[i]? <;> rfl
theorem wtI_get (pts : Points) (i : Nat) : (wtI pts).getD i 0 = ((pointAt pts i).weight : Int) := by
  unfold wtI pointAt
  rw [List.getD_eq_getElem?_getD, List.getD_eq_getElem?_getD, List.getElem?_map]
  cases pts[i]? <;> rfl
/-! ### reading the points -/
theorem evens_len {α : Type} : ∀ ns : List α, (evens ns).length = (ns.length + 1) / 2
  | [] => by simp [evens]
  | [_] => by simp [evens]
  | _ :: _ :: r => by
    show (evens r).length + 1 = (r.length + 1 + 1 + 1) / 2
    rw [evens_len r]
    omega
theorem odds_len {α : Type} : ∀ ns : List α, (odds ns).length = ns.length / 2
  | [] => by simp [odds]
  | [_] => by simp [odds]
  | _ :: _ :: r => by
    show (odds r).length + 1 = (r.length + 1 + 1) / 2
    rw [odds_len r]
    omega
theorem evens_mem : ∀ {ns : List Int} {x : Int}, x ∈ evens ns → x ∈ ns
  | [], _, h => h
  | [_], _, h => h
  | a :: b :: r, x, h => by
    rcases List.mem_cons.mp h with e | h
    · rw [e]; exact List.mem_cons_self
    · exact List.mem_cons_of_mem _ (List.mem_cons_of_mem _ (evens_mem h))
theorem odds_mem : ∀ {ns : List Int} {x : Int}, x ∈ odds ns → x ∈ ns
  | [], _, h => h
  | [_], _, h => absurd h (by simp [odds])
  | a :: b :: r, x, h => by
    rcases List.mem_cons.mp h with e | h
    · rw [e]; exact List.mem_cons_of_mem _ List.mem_cons_self
    · exact List.mem_cons_of_mem _ (List.mem_cons_of_mem _ (odds_mem h))
theorem posI_toPts : ∀ {ns : List Int}, (∀ x ∈ ns, 0 ≤ x) → ns.length % 2 = 0 → posI (toPts ns) = evens ns
  | [], _, _ => rfl
  | [_], _, h => absurd h (by simp)
  | a :: b :: r, h, e => by
    have ih := posI_toPts (ns := r) (fun x hx => h x (List.mem_cons_of_mem _ (List.mem_cons_of_mem _ hx))) (by simp only [List.length_cons] at e; omega)
    show ((a.toNat : Nat) : Int) :: posI (toPts r) = a :: evens r
    rw [ih, Int.toNat_of_nonneg (h a List.mem_cons_self)]
theorem wtI_toPts : ∀ {ns : List Int}, (∀ x ∈ ns, 0 ≤ x) → wtI (toPts ns) = odds ns
  | [], _ => rfl
  | [_], _ => rfl
  | a :: b :: r, h => by
    have ih := wtI_toPts (ns := r) (fun x hx => h x (List.mem_cons_of_mem _ (List.mem_cons_of_mem _ hx)))
    show ((b.toNat : Nat) : Int) :: wtI (toPts r) = b :: odds r
    rw [ih, Int.toNat_of_nonneg (h b (List.mem_cons_of_mem _ List.mem_cons_self))]
theorem toPts_len : ∀ ns : List Int, (toPts ns).length = ns.length / 2
  | [] => by simp [toPts]
  | [_] => by simp [toPts]
  | _ :: _ :: r => by
    show (toPts r).length + 1 = (r.length + 1 + 1) / 2
    rw [toPts_len r]
    omega
theorem rising_cons (a b : Int) (r : List Int) : rising (a :: b :: r) = (decide (a < b) && rising (b :: r)) := by
  unfold rising
  show (List.range (r.length + 1)).all _ = (decide (a < b) && (List.range r.length).all _)
  rw [List.range_succ_eq_map, List.all_cons, List.all_map]
  rfl
theorem rising_nil : rising [] = true := rfl
theorem rising_one (a : Int) : rising [a] = true := rfl
theorem parse_eq : ∀ (ns : List Int), (∀ x ∈ ns, 0 ≤ x) → Ks591.parsePoints (ns.map Int.toNat) =
    if (decide (ns.length % 2 = 0) && (allBetween (evens ns) 0 999 && rising (evens ns) && allBetween (odds ns) 0 99)) = true then some (toPts ns) else none
  | [], _ => rfl
  | [x], _ => by
    rw [if_neg (by simp)]
    rfl
  | p :: w :: r, h => by
    have hp : 0 ≤ p := h p List.mem_cons_self
    have hw : 0 ≤ w := h w (List.mem_cons_of_mem _ List.mem_cons_self)
    have hr : ∀ x ∈ r, 0 ≤ x := fun x hx => h x (List.mem_cons_of_mem _ (List.mem_cons_of_mem _ hx))
    have ih := parse_eq r hr
    show Ks591.parsePoints (p.toNat :: w.toNat :: r.map Int.toNat) = _
    rw [Ks591.parsePoints, ih]
    have el : (p :: w :: r).length % 2 = r.length % 2 := by
      simp only [List.length_cons]
      omega
    rw [el]
    show _ = if (decide (r.length % 2 = 0) && ((between p 0 999 && allBetween (evens r) 0 999) && rising (p :: evens r) && (between w 0 99 && allBetween (odds r) 0 99))) = true then some (⟨p.toNat, w.toNat⟩ :: toPts r) else none
    by_cases h1 : 999 < p.toNat ∨ 99 < w.toNat
    · rw [if_pos h1, if_neg]
      intro q
      simp only [Bool.and_eq_true, between, decide_eq_true_eq] at q
      omega
    · rw [if_neg h1]
      have b1 : between p 0 999 = true := by
        simp only [Bool.and_eq_true, between, decide_eq_true_eq]
        omega
      have b2 : between w 0 99 = true := by
        simp only [Bool.and_eq_true, between, decide_eq_true_eq]
        omega
      rw [b1, b2, Bool.true_and, Bool.true_and]
      by_cases h2 : (decide (r.length % 2 = 0) && (allBetween (evens r) 0 999 && rising (evens r) && allBetween (odds r) 0 99)) = true
      · rw [if_pos h2]
        simp only [Bool.and_eq_true, decide_eq_true_eq] at h2
        obtain ⟨h3, ⟨h4, h5⟩, h6⟩ := h2
        rw [h4, h6]
        match r, h3, h5 with
        | [], _, _ => rfl
        | [_], h3, _ => exact absurd h3 (by simp)
        | p2 :: w2 :: r2, h3, h5 =>
          have hp2 : 0 ≤ p2 := hr p2 List.mem_cons_self
          show (if p.toNat < p2.toNat then some (⟨p.toNat, w.toNat⟩ :: toPts (p2 :: w2 :: r2)) else none) = _
          have ev : evens (p2 :: w2 :: r2) = p2 :: evens r2 := rfl
          rw [ev] at h5 ⊢
          rw [rising_cons, h5, decide_eq_true h3]
          by_cases h7 : p < p2
          · rw [if_pos (by omega), decide_eq_true h7]
            rfl
          · rw [if_neg (by omega), decide_eq_false h7]
            rfl
      · rw [if_neg h2, if_neg]
        intro q
        apply h2
        simp only [Bool.and_eq_true, decide_eq_true_eq] at q ⊢
        obtain ⟨q1, ⟨q2, q3⟩, q4⟩ := q
        refine ⟨q1, ⟨q2, ?_⟩, q4⟩
        cases e : evens r with
        | nil => rfl
        | cons b t =>
          rw [e, rising_cons, Bool.and_eq_true] at q3
          exact q3.2
/-- what every operation first asks -/
theorem withPoints_eq {sp : Int} {ns : List Int} (h0 : 0 ≤ sp) (h : ∀ x ∈ ns, 0 ≤ x) (f : Points → Ks591.Result) :
    Ks591.withPoints sp.toNat (ns.map Int.toNat) f = if okPts sp ns = true then f (toPts ns) else Ks591.number (-22) := by
  unfold Ks591.withPoints
  rw [parse_eq ns h]
  unfold okPts arePts
  by_cases c : (decide (ns.length % 2 = 0) && (allBetween (evens ns) 0 999 && rising (evens ns) && allBetween (odds ns) 0 99)) = true
  · rw [if_pos c]
    show (if Ks591.maxPoints < (toPts ns).length ∨ sp.toNat < 1 ∨ 999 < sp.toNat then Ks591.number (-22) else f (toPts ns)) = _
    rw [toPts_len]
    simp only [Bool.and_eq_true, decide_eq_true_eq] at c
    obtain ⟨c1, c2⟩ := c
    by_cases d : Ks591.maxPoints < ns.length / 2 ∨ sp.toNat < 1 ∨ 999 < sp.toNat
    · rw [if_pos d, if_neg]
      intro q
      simp only [Bool.and_eq_true, decide_eq_true_eq, between] at q
      unfold Ks591.maxPoints at d
      omega
    · rw [if_neg d, if_pos]
      simp only [Bool.and_eq_true, decide_eq_true_eq, between]
      unfold Ks591.maxPoints at d
      refine ⟨⟨by omega, by omega⟩, ⟨c1, by omega⟩, c2⟩
  · rw [if_neg c, if_neg]
    intro q
    apply c
    simp only [Bool.and_eq_true, decide_eq_true_eq] at q ⊢
    exact ⟨q.2.1.1, q.2.2⟩
theorem okPts_even {sp : Int} {ns : List Int} (h : okPts sp ns = true) : ns.length % 2 = 0 ∧ ns.length / 2 ≤ 12 ∧ 1 ≤ sp ∧ sp ≤ 999 := by
  simp only [okPts, arePts, between, Bool.and_eq_true, decide_eq_true_eq] at h
  exact ⟨h.2.1.1, h.2.1.2, h.1.1, h.1.2⟩
end Sx
namespace Sx
open Ks591 (Point Points pointAt)
/-! ### conflicts, sets, weights -/
theorem conf_eq (pts : Points) (s i j : Nat) : conf (s : Int) (posI pts) i j =
    decide (((pointAt pts i).position - (pointAt pts j).position) + ((pointAt pts j).position - (pointAt pts i).position) < s) := by
  unfold conf absI
  rw [posI_get, posI_get]
  by_cases h : ((pointAt pts i).position : Int) - ((pointAt pts j).position : Int) < 0
  · rw [if_pos h]
    exact decide_eq_decide.mpr (by omega)
  · rw [if_neg h]
    exact decide_eq_decide.mpr (by omega)
theorem conflict_eq (pts : Points) (s i j : Nat) : Ks591.conflict pts s i j = (i != j && conf (s : Int) (posI pts) i j) := by
  rw [conf_eq]
  rfl
theorem conf_symm (sp : Int) (ps : List Int) (i j : Nat) : conf sp ps i j = conf sp ps j i := by
  unfold conf absI
  refine decide_eq_decide.mpr ?_
  generalize ps.getD i 0 = a
  generalize ps.getD j 0 = b
  by_cases h : a - b < 0
  · by_cases h2 : b - a < 0
    · omega
    · rw [if_pos h, if_neg h2]; omega
  · by_cases h2 : b - a < 0
    · rw [if_neg h, if_pos h2]; omega
    · rw [if_neg h, if_neg h2]; omega
theorem mem_members {m n i : Nat} : i ∈ members m n ↔ i < n ∧ m.testBit i = true := by
  unfold members
  rw [List.mem_filter, List.mem_range]
theorem members_pairwise {m n : Nat} {R : Nat → Nat → Prop} : (members m n).Pairwise R ↔ ∀ i j, i < j → j < n → m.testBit i = true → m.testBit j = true → R i j := by
  unfold members
  rw [List.pairwise_filter, List.pairwise_iff_getElem]
  constructor
  · intro h i j hij hj bi bj
    have z := h i j (by rw [List.length_range]; omega) (by rw [List.length_range]; omega) hij
    rw [List.getElem_range, List.getElem_range] at z
    exact z bi bj
  · intro h i j hi hj hij
    rw [List.getElem_range, List.getElem_range]
    rw [List.length_range] at hj
    exact h i j hij hj
theorem getD_lt {α : Type} {l : List α} {k : Nat} {d : α} (h : k < l.length) : l.getD k d = l[k] := by
  rw [List.getD_eq_getElem?_getD, List.getElem?_eq_getElem h]
  rfl
theorem valid_iff (sp : Int) (ps : List Int) (m : Nat) : valid sp ps m = true ↔ (members m ps.length).Pairwise fun a b => conf sp ps b a = false := by
  unfold valid fits
  generalize members m ps.length = l
  rw [List.pairwise_iff_getElem, List.all_eq_true]
  constructor
  · intro h i j hi hj hij
    have z := h j (List.mem_range.mpr hj)
    rw [List.all_eq_true] at z
    have z2 := z l[i] (by
      rw [List.mem_take_iff_getElem]
      exact ⟨i, by omega, rfl⟩)
    rw [getD_lt hj] at z2
    simpa using z2
  · intro h j hj
    have hj := List.mem_range.mp hj
    rw [List.all_eq_true]
    intro x hx
    obtain ⟨i, hi, rfl⟩ := List.mem_take_iff_getElem.mp hx
    rw [getD_lt hj]
    have z := h i j (by omega) hj (by omega)
    simpa using z
theorem specValid_iff (pts : Points) (s m : Nat) : Ks591.isValidSelection pts s m = true ↔ ∀ i j, i < pts.length → j < pts.length → m.testBit i = true → m.testBit j = true → Ks591.conflict pts s i j = false := by
  unfold Ks591.isValidSelection
  rw [List.all_eq_true]
  constructor
  · intro h i j hi hj bi bj
    have z := List.all_eq_true.mp (h i (List.mem_range.mpr hi)) j (List.mem_range.mpr hj)
    rw [bi, bj] at z
    simpa using z
  · intro h i hi
    rw [List.all_eq_true]
    intro j hj
    have hi := List.mem_range.mp hi
    have hj := List.mem_range.mp hj
    cases bi : m.testBit i
    · rfl
    · cases bj : m.testBit j
      · rfl
      · rw [h i j hi hj bi bj]
        rfl
theorem valid_eq (pts : Points) (s m : Nat) : valid (s : Int) (posI pts) m = Ks591.isValidSelection pts s m := by
  rw [Bool.eq_iff_iff, valid_iff, specValid_iff, members_pairwise, posI_len]
  constructor
  · intro h i j hi hj bi bj
    rw [conflict_eq]
    by_cases e : i = j
    · subst e
      simp
    · rcases Nat.lt_or_gt_of_ne e with l | l
      · rw [conf_symm, h i j l hj bi bj, Bool.and_false]
      · rw [h j i l hi bj bi, Bool.and_false]
  · intro h i j hij hj bi bj
    have z := h j i hj (by omega) bj bi
    rw [conflict_eq] at z
    have ne : (j != i) = true := by simp; omega
    rw [ne, Bool.true_and] at z
    exact z
theorem sum_cast (l : List Nat) : ((l.sum : Nat) : Int) = (l.map fun (x : Nat) => (x : Int)).sum := by
  induction l with
  | nil => rfl
  | cons a r ih =>
    rw [List.sum_cons, List.map_cons, List.sum_cons, ← ih]
    omega
theorem sum_filter {p : Nat → Bool} {f : Nat → Int} : ∀ l : List Nat, ((l.filter p).map f).sum = (l.map fun i => if p i = true then f i else 0).sum
  | [] => rfl
  | a :: r => by
    rw [List.filter_cons, List.map_cons, List.sum_cons]
    by_cases h : p a = true
    · rw [if_pos h, if_pos h, List.map_cons, List.sum_cons, sum_filter r]
    · rw [if_neg h, if_neg h, sum_filter r, Int.zero_add]
theorem wOf_eq (pts : Points) (m : Nat) : wOf (wtI pts) m = (Ks591.weightOf pts m : Int) := by
  unfold wOf Ks591.weightOf members
  rw [wtI_len, sum_filter, sum_cast, List.map_map]
  refine congrArg List.sum (List.map_congr_left fun i _ => ?_)
  show _ = (((if m.testBit i = true then (pointAt pts i).weight else 0 : Nat)) : Int)
  by_cases h : m.testBit i = true
  · rw [if_pos h, if_pos h, wtI_get]
  · rw [if_neg h, if_neg h]
    rfl
theorem weightOf_zero (pts : Points) : Ks591.weightOf pts 0 = 0 := by
  unfold Ks591.weightOf
  have e : (fun i => if (0 : Nat).testBit i = true then (pointAt pts i).weight else 0) = fun _ => 0 := by
    funext i
    rw [Nat.zero_testBit, if_neg Bool.false_ne_true]
  rw [e]
  generalize List.range pts.length = l
  induction l with
  | nil => rfl
  | cons a r ih => rw [List.map_cons, List.sum_cons, ih]
/-! ### the best selection -/
theorem best_fold (pts : Points) (s : Nat) : ∀ (l : List Nat) (b : Nat), l.foldl (bestStep (s : Int) (posI pts) (wtI pts)) (b, (Ks591.weightOf pts b : Int)) =
    (l.foldl (fun best mask => if (Ks591.isValidSelection pts s mask && decide (Ks591.weightOf pts best < Ks591.weightOf pts mask)) = true then mask else best) b,
     (Ks591.weightOf pts (l.foldl (fun best mask => if (Ks591.isValidSelection pts s mask && decide (Ks591.weightOf pts best < Ks591.weightOf pts mask)) = true then mask else best) b) : Int))
  | [], _ => rfl
  | m :: r, b => by
    rw [List.foldl_cons, List.foldl_cons]
    have e : bestStep (s : Int) (posI pts) (wtI pts) (b, (Ks591.weightOf pts b : Int)) m =
        ((if (Ks591.isValidSelection pts s m && decide (Ks591.weightOf pts b < Ks591.weightOf pts m)) = true then m else b),
         (Ks591.weightOf pts (if (Ks591.isValidSelection pts s m && decide (Ks591.weightOf pts b < Ks591.weightOf pts m)) = true then m else b) : Int)) := by
      unfold bestStep
      rw [wOf_eq, valid_eq]
      have d : decide (((Ks591.weightOf pts b : Nat) : Int) < ((Ks591.weightOf pts m : Nat) : Int)) = decide (Ks591.weightOf pts b < Ks591.weightOf pts m) := decide_eq_decide.mpr (by omega)
      show (if (decide (((Ks591.weightOf pts b : Nat) : Int) < ((Ks591.weightOf pts m : Nat) : Int)) && Ks591.isValidSelection pts s m) = true then _ else _) = _
      rw [d, Bool.and_comm]
      by_cases c : (Ks591.isValidSelection pts s m && decide (Ks591.weightOf pts b < Ks591.weightOf pts m)) = true
      · rw [if_pos c, if_pos c]
      · rw [if_neg c, if_neg c]
    rw [e, best_fold pts s r]
theorem best_eq (pts : Points) (s : Nat) : best (s : Int) (posI pts) (wtI pts) = Ks591.bestSelection pts s := by
  unfold best Ks591.bestSelection
  have z := best_fold pts s (List.range (2 ^ pts.length)) 0
  rw [weightOf_zero] at z
  rw [posI_len]
  exact congrArg Prod.fst z
/-! ### the greatest number of points -/
theorem count_fold (pts : Points) (s : Nat) : ∀ (l : List Nat) (b : Nat), l.foldl (countStep (s : Int) (posI pts)) b =
    (l.filter (Ks591.isValidSelection pts s)).foldl (fun best mask => max best (((List.range pts.length).filter fun i => mask.testBit i).length)) b
  | [], _ => rfl
  | m :: r, b => by
    rw [List.foldl_cons, List.filter_cons]
    have e : countStep (s : Int) (posI pts) b m = if (decide (b < ((List.range pts.length).filter fun i => m.testBit i).length) && Ks591.isValidSelection pts s m) = true then ((List.range pts.length).filter fun i => m.testBit i).length else b := by
      unfold countStep members
      rw [valid_eq, posI_len]
    rw [e]
    by_cases c : Ks591.isValidSelection pts s m = true
    · rw [if_pos c, List.foldl_cons, c, Bool.and_true]
      rw [count_fold pts s r]
      congr 1
      generalize ((List.range pts.length).filter fun i => m.testBit i).length = k
      by_cases d : b < k
      · rw [if_pos (by simp [d])]; omega
      · rw [if_neg (by simp [d])]; omega
    · rw [if_neg c, if_neg (by simp [c])]
      exact count_fold pts s r b
theorem count_eq (pts : Points) (s : Nat) : count (s : Int) (posI pts) = Ks591.maxCount pts s := by
  unfold count Ks591.maxCount
  rw [posI_len]
  exact count_fold pts s _ 0
/-! ### prices -/
theorem earlierP_eq (pts : Points) (s i : Nat) (pr : List Nat) : earlierP (s : Int) (posI pts) (pr.map fun (x : Nat) => (x : Int)) i =
    ((((List.range i).map fun j => if Ks591.conflict pts s i j = true then pr.getD j 0 else 0).sum : Nat) : Int) := by
  unfold earlierP earlier
  rw [sum_filter, sum_cast, List.map_map]
  refine congrArg List.sum (List.map_congr_left fun j hj => ?_)
  have hj := List.mem_range.mp hj
  show _ = (((if Ks591.conflict pts s i j = true then pr.getD j 0 else 0 : Nat)) : Int)
  rw [conflict_eq]
  have ne : (i != j) = true := by simp; omega
  rw [ne, Bool.true_and]
  have g : (pr.map fun (x : Nat) => (x : Int)).getD j 0 = ((pr.getD j 0 : Nat) : Int) := by
    rw [List.getD_eq_getElem?_getD, List.getD_eq_getElem?_getD, List.getElem?_map]
    cases pr[j]? <;> rfl
  by_cases h : conf (s : Int) (posI pts) i j = true
  · rw [if_pos h, if_pos h, g]
  · rw [if_neg h, if_neg h]
    rfl
theorem price_fold (pts : Points) (s : Nat) : ∀ (l : List Nat) (pr : List Nat), l.foldl (priceStep (s : Int) (posI pts) (wtI pts)) (pr.map fun (x : Nat) => (x : Int)) =
    (l.foldl (fun prices i => prices ++ [(pointAt pts i).weight - ((List.range i).map fun j => if Ks591.conflict pts s i j = true then prices.getD j 0 else 0).sum]) pr).map fun (x : Nat) => (x : Int)
  | [], _ => rfl
  | i :: r, pr => by
    rw [List.foldl_cons, List.foldl_cons, ← price_fold pts s r]
    unfold priceStep
    rw [earlierP_eq, wtI_get, List.map_append]
    refine congrArg (r.foldl (priceStep (s : Int) (posI pts) (wtI pts))) (congrArg _ ?_)
    show [max0 _] = [(((pointAt pts i).weight - ((List.range i).map fun j => if Ks591.conflict pts s i j = true then pr.getD j 0 else 0).sum : Nat) : Int)]
    unfold max0
    generalize ((List.range i).map fun j => if Ks591.conflict pts s i j = true then pr.getD j 0 else 0).sum = t
    congr 1
    split <;> omega
theorem computed_eq (pts : Points) (s : Nat) : computed (s : Int) (posI pts) (wtI pts) = (Ks591.pricesOf pts s).map fun (x : Nat) => (x : Int) := by
  unfold computed Ks591.pricesOf
  rw [posI_len]
  exact price_fold pts s _ []
theorem sum_split (f : Nat → Int) : ∀ (n i : Nat), i < n → ∀ (c : Nat → Bool), ((List.range n).map fun j => if j = i ∨ (j < i ∧ c j = true) then f j else 0).sum = f i + ((List.range i).map fun j => if c j = true then f j else 0).sum := by
  intro n i hi c
  have e : n = i + 1 + (n - i - 1) := by omega
  rw [e, List.range_add, List.range_succ, List.map_append, List.map_append, List.sum_append_int, List.sum_append_int, List.map_map]
  have z1 : ((List.range i).map fun j => if j = i ∨ (j < i ∧ c j = true) then f j else 0) = (List.range i).map fun j => if c j = true then f j else 0 := by
    refine List.map_congr_left fun j hj => ?_
    have hj := List.mem_range.mp hj
    by_cases h : c j = true
    · rw [if_pos h, if_pos (.inr ⟨hj, h⟩)]
    · rw [if_neg h, if_neg (by rintro (q | q); · omega
                               · exact h q.2)]
  have z2 : ((List.range (n - i - 1)).map ((fun j => if j = i ∨ (j < i ∧ c j = true) then f j else 0) ∘ fun x => i + 1 + x)).sum = 0 := by
    generalize List.range (n - i - 1) = l
    induction l with
    | nil => rfl
    | cons a r ih =>
      rw [List.map_cons, List.sum_cons, ih]
      show (if i + 1 + a = i ∨ (i + 1 + a < i ∧ c (i + 1 + a) = true) then f (i + 1 + a) else 0) + 0 = 0
      rw [if_neg (by omega)]
      rfl
  rw [z1, z2]
  show _ + ([if i = i ∨ (i < i ∧ c i = true) then f i else 0] : List Int).sum + 0 = _
  rw [if_pos (.inl rfl), List.sum_cons, List.sum_nil]
  omega
theorem all_congr_mem {f g : Nat → Bool} : ∀ {l : List Nat}, (∀ i ∈ l, f i = g i) → l.all f = l.all g
  | [], _ => rfl
  | a :: r, h => by
    rw [List.all_cons, List.all_cons, h a List.mem_cons_self, all_congr_mem fun i hi => h i (List.mem_cons_of_mem _ hi)]
theorem sufficient_eq (pts : Points) (s : Nat) (pr : List Nat) (hl : pr.length = pts.length) :
    sufficient (s : Int) (posI pts) (wtI pts) (pr.map fun (x : Nat) => (x : Int)) = Ks591.arePricesSufficient pts s pr := by
  unfold sufficient Ks591.arePricesSufficient
  rw [hl, posI_len, beq_self_eq_true, Bool.true_and]
  refine all_congr_mem fun i hi => ?_
  have hi := List.mem_range.mp hi
  rw [earlierP_eq, wtI_get]
  refine decide_eq_decide.mpr ?_
  have g : (pr.map fun (x : Nat) => (x : Int)).getD i 0 = ((pr.getD i 0 : Nat) : Int) := by
    rw [List.getD_eq_getElem?_getD, List.getD_eq_getElem?_getD, List.getElem?_map]
    cases pr[i]? <;> rfl
  rw [g]
  have z := sum_split (fun j => ((pr.getD j 0 : Nat) : Int)) pts.length i hi fun j => Ks591.conflict pts s i j
  have c1 : ((((List.range pts.length).map fun j => if j = i ∨ (j < i ∧ Ks591.conflict pts s i j = true) then pr.getD j 0 else 0).sum : Nat) : Int) =
      ((List.range pts.length).map fun j => if j = i ∨ (j < i ∧ Ks591.conflict pts s i j = true) then ((pr.getD j 0 : Nat) : Int) else 0).sum := by
    rw [sum_cast, List.map_map]
    refine congrArg List.sum (List.map_congr_left fun j _ => ?_)
    show (((if j = i ∨ (j < i ∧ Ks591.conflict pts s i j = true) then pr.getD j 0 else 0 : Nat)) : Int) = _
    split <;> rfl
  have c2 : ((((List.range i).map fun j => if Ks591.conflict pts s i j = true then pr.getD j 0 else 0).sum : Nat) : Int) =
      ((List.range i).map fun j => if Ks591.conflict pts s i j = true then ((pr.getD j 0 : Nat) : Int) else 0).sum := by
    rw [sum_cast, List.map_map]
    refine congrArg List.sum (List.map_congr_left fun j _ => ?_)
    show (((if Ks591.conflict pts s i j = true then pr.getD j 0 else 0 : Nat)) : Int) = _
    split <;> rfl
  rw [c2, ← z, ← c1]
  omega
end Sx
namespace Sx
open Ks591 (Point Points pointAt)
/-! ### a list of points taken, as a mask -/
theorem testBit_add_pow {m i : Nat} (h : m.testBit i = false) (j : Nat) : (m + 2 ^ i).testBit j = (decide (j = i) || m.testBit j) := by
  rcases Nat.lt_trichotomy j i with l | e | g
  · rw [decide_eq_false (by omega), Bool.false_or, Nat.add_comm, Nat.testBit_two_pow_add_gt l]
  · subst e
    rw [decide_eq_true rfl, Bool.true_or, Nat.add_comm, Nat.testBit_two_pow_add_eq, h]
    rfl
  · rw [decide_eq_false (by omega), Bool.false_or]
    have hq : (m + 2 ^ i) / 2 ^ (i + 1) = m / 2 ^ (i + 1) := by
      have hb : m / 2 ^ i % 2 = 0 := by
        rw [Nat.testBit_eq_decide_div_mod_eq] at h
        have := of_decide_eq_false h
        omega
      rw [Nat.pow_succ, ← Nat.div_div_eq_div_mul, ← Nat.div_div_eq_div_mul, Nat.add_div_right _ (Nat.two_pow_pos i)]
      omega
    obtain ⟨d, rfl⟩ : ∃ d, j = i + 1 + d := ⟨j - (i + 1), by omega⟩
    rw [Nat.add_comm (i + 1) d, ← Nat.testBit_div_two_pow, ← Nat.testBit_div_two_pow, hq]
theorem maskOf_snoc (t : List Nat) (i : Nat) : maskOf (t ++ [i]) = maskOf t + 2 ^ i := by
  unfold maskOf
  rw [List.map_append, List.sum_append_nat]
  rfl
theorem fits_eq (pts : Points) (s i m : Nat) (t : List Nat) (hm : ∀ j, m.testBit j = decide (j ∈ t)) (ht : ∀ j ∈ t, j < pts.length) (hi : i ∉ t) :
    fits (s : Int) (posI pts) i t = (List.range pts.length).all fun j => !(m.testBit j && Ks591.conflict pts s i j) := by
  unfold fits
  rw [Bool.eq_iff_iff, List.all_eq_true, List.all_eq_true]
  constructor
  · intro h j _
    rw [hm]
    by_cases c : j ∈ t
    · have z := h j c
      rw [conflict_eq, decide_eq_true c, Bool.true_and]
      have z : conf (s : Int) (posI pts) i j = false := by simpa using z
      rw [z, Bool.and_false]
      rfl
    · rw [decide_eq_false c, Bool.false_and]
      rfl
  · intro h j hj
    have z := h j (List.mem_range.mpr (ht j hj))
    have ne : (i != j) = true := by
      simp only [bne_iff_ne, ne_eq]
      intro e
      exact hi (e ▸ hj)
    rw [hm, decide_eq_true hj, Bool.true_and, conflict_eq, ne, Bool.true_and] at z
    exact z
theorem take_fold (pts : Points) (s : Nat) (c : Nat → Bool) : ∀ (l t : List Nat), (∀ j, (maskOf t).testBit j = decide (j ∈ t)) → (∀ j ∈ t, j < pts.length) → (∀ i ∈ l, i < pts.length) → l.Nodup → (∀ i ∈ l, i ∉ t) →
    maskOf (l.foldl (takeStep (s : Int) (posI pts) c) t) =
      l.foldl (fun mask i => if (c i && (List.range pts.length).all fun j => !(mask.testBit j && Ks591.conflict pts s i j)) = true then mask + 2 ^ i else mask) (maskOf t)
  | [], _, _, _, _, _, _ => rfl
  | i :: r, t, hm, ht, hl, hn, hd => by
    rw [List.foldl_cons, List.foldl_cons]
    have hn' := List.nodup_cons.mp hn
    have hit : i ∉ t := hd i List.mem_cons_self
    unfold takeStep
    rw [fits_eq pts s i (maskOf t) t hm ht hit]
    by_cases h : (c i && (List.range pts.length).all fun j => !((maskOf t).testBit j && Ks591.conflict pts s i j)) = true
    · rw [if_pos h, if_pos h, ← maskOf_snoc]
      refine take_fold pts s c r (t ++ [i]) (fun j => ?_) (fun j hj => ?_) (fun j hj => hl j (List.mem_cons_of_mem _ hj)) hn'.2 fun j hj q => ?_
      · rw [maskOf_snoc, testBit_add_pow (by rw [hm]; exact decide_eq_false hit), hm]
        by_cases e1 : j = i
        · simp [e1]
        · by_cases e2 : j ∈ t
          · simp [e1, e2]
          · simp [e1, e2]
      · rcases List.mem_append.mp hj with q | q
        · exact ht j q
        · rw [List.mem_singleton.mp q]
          exact hl i List.mem_cons_self
      · rcases List.mem_append.mp q with q | q
        · exact hd j (List.mem_cons_of_mem _ hj) q
        · rw [List.mem_singleton.mp q] at hj
          exact hn'.1 hj
    · rw [if_neg h, if_neg h]
      exact take_fold pts s c r t hm ht (fun j hj => hl j (List.mem_cons_of_mem _ hj)) hn'.2 fun j hj => hd j (List.mem_cons_of_mem _ hj)
theorem take_fold0 (pts : Points) (s : Nat) (c : Nat → Bool) (l : List Nat) (hl : ∀ i ∈ l, i < pts.length) (hn : l.Nodup) :
    maskOf (l.foldl (takeStep (s : Int) (posI pts) c) []) =
      l.foldl (fun mask i => if (c i && (List.range pts.length).all fun j => !(mask.testBit j && Ks591.conflict pts s i j)) = true then mask + 2 ^ i else mask) 0 :=
  take_fold pts s c l [] (fun j => by
    show (0 : Nat).testBit j = _
    rw [Nat.zero_testBit, decide_eq_false (by simp)]) (fun j hj => absurd hj (by simp)) hl hn fun i _ => by simp
theorem priceTaken_eq (pts : Points) (s : Nat) : maskOf (priceTaken (s : Int) (posI pts) (computed (s : Int) (posI pts) (wtI pts))) = Ks591.priceSelection pts s := by
  unfold priceTaken Ks591.priceSelection
  rw [posI_len, take_fold0 pts s _ _ (fun i hi => List.mem_range.mp (List.mem_reverse.mp hi)) ((List.reverse_perm _).nodup_iff.mpr List.nodup_range), computed_eq]
  have e : (fun i => decide (0 < ((Ks591.pricesOf pts s).map fun (x : Nat) => (x : Int)).getD i 0)) = fun i => (Ks591.pricesOf pts s).getD i 0 != 0 := by
    funext i
    have g : ((Ks591.pricesOf pts s).map fun (x : Nat) => (x : Int)).getD i 0 = (((Ks591.pricesOf pts s).getD i 0 : Nat) : Int) := by
      rw [List.getD_eq_getElem?_getD, List.getD_eq_getElem?_getD, List.getElem?_map]
      cases (Ks591.pricesOf pts s)[i]? <;> rfl
    rw [g]
    generalize (Ks591.pricesOf pts s).getD i 0 = k
    cases k with
    | zero => rfl
    | succ k =>
      rw [decide_eq_true (by omega)]
      rfl
  have e2 : ∀ i, decide (0 < ((Ks591.pricesOf pts s).map fun (x : Nat) => (x : Int)).getD i 0) = ((Ks591.pricesOf pts s).getD i 0 != 0) := fun i => congrFun e i
  simp only [e2]
/-! ### the order of the greedy selection -/
def before (ws : List Int) (a b : Nat) : Prop := ws.getD b 0 < ws.getD a 0 ∨ (ws.getD a 0 = ws.getD b 0 ∧ a < b)
def insW (ws : List Int) (i : Nat) : List Nat → List Nat
  | [] => [i]
  | j :: r => if ws.getD j 0 < ws.getD i 0 ∨ (ws.getD j 0 = ws.getD i 0 ∧ i < j) then i :: j :: r else j :: insW ws i r
def order (ws : List Int) : List Nat := (List.range ws.length).foldr (insW ws) []
def greedyTaken (sp : Int) (ps ws : List Int) : List Nat := (order ws).foldl (takeStep sp ps fun _ => true) []
theorem insW_eq (pts : Points) (i : Nat) : ∀ l : List Nat, insW (wtI pts) i l = Ks591.insertByWeight pts i l
  | [] => rfl
  | j :: r => by
    rw [insW, Ks591.insertByWeight, wtI_get, wtI_get, insW_eq pts i r]
    by_cases h : (pointAt pts j).weight < (pointAt pts i).weight ∨ ((pointAt pts j).weight = (pointAt pts i).weight ∧ i < j)
    · rw [if_pos h, if_pos (by omega)]
    · rw [if_neg h, if_neg (by omega)]
theorem order_eq (pts : Points) : order (wtI pts) = (List.range pts.length).foldr (Ks591.insertByWeight pts) [] := by
  unfold order
  rw [wtI_len]
  have e : insW (wtI pts) = Ks591.insertByWeight pts := by
    funext i l
    exact insW_eq pts i l
  rw [e]
theorem insW_perm (ws : List Int) (i : Nat) : ∀ l : List Nat, (insW ws i l).Perm (i :: l)
  | [] => .refl _
  | j :: r => by
    rw [insW]
    split
    · exact .refl _
    · exact ((insW_perm ws i r).cons j).trans (.swap i j r)
theorem before_of_not {ws : List Int} {a b : Nat} (h : ¬ before ws a b) (ne : a ≠ b) : before ws b a := by
  unfold before at h ⊢
  omega
theorem before_trans {ws : List Int} {a b c : Nat} (h : before ws a b) (k : before ws b c) : before ws a c := by
  unfold before at h k ⊢
  omega
theorem before_asymm {ws : List Int} {a b : Nat} (h : before ws a b) (k : before ws b a) : False := by
  unfold before at h k
  omega
theorem insW_sorted {ws : List Int} {i : Nat} : ∀ {l : List Nat}, l.Pairwise (before ws) → (∀ j ∈ l, j ≠ i) → (insW ws i l).Pairwise (before ws)
  | [], _, _ => List.pairwise_singleton ..
  | j :: r, h, hd => by
    rw [insW]
    have h' := List.pairwise_cons.mp h
    by_cases c : ws.getD j 0 < ws.getD i 0 ∨ (ws.getD j 0 = ws.getD i 0 ∧ i < j)
    · rw [if_pos c]
      have b : before ws i j := by
        unfold before
        omega
      refine List.pairwise_cons.mpr ⟨fun k hk => ?_, h⟩
      rcases List.mem_cons.mp hk with e | hk
      · rw [e]; exact b
      · exact before_trans b (h'.1 k hk)
    · rw [if_neg c]
      have ne : i ≠ j := fun e => hd j List.mem_cons_self e.symm
      have b : before ws j i := before_of_not (by unfold before; omega) ne
      refine List.pairwise_cons.mpr ⟨fun k hk => ?_, insW_sorted h'.2 fun k hk => hd k (List.mem_cons_of_mem _ hk)⟩
      rcases List.mem_cons.mp ((insW_perm ws i r).mem_iff.mp hk) with e | hk
      · rw [e]; exact b
      · exact h'.1 k hk
theorem foldr_insW (ws : List Int) : ∀ {l : List Nat}, l.Nodup → (l.foldr (insW ws) []).Perm l ∧ (l.foldr (insW ws) []).Pairwise (before ws)
  | [], _ => ⟨.refl _, .nil⟩
  | a :: r, h => by
    have h' := List.nodup_cons.mp h
    obtain ⟨p, q⟩ := foldr_insW ws h'.2
    rw [List.foldr_cons]
    refine ⟨(insW_perm ws a _).trans (p.cons a), insW_sorted q fun j hj e => ?_⟩
    rw [e] at hj
    exact h'.1 (p.mem_iff.mp hj)
theorem sorted_unique {ws : List Int} : ∀ {l m : List Nat}, l.Perm m → l.Pairwise (before ws) → m.Pairwise (before ws) → l = m
  | [], m, p, _, _ => p.nil_eq
  | a :: l, [], p, _, _ => absurd p.symm.nil_eq (by simp)
  | a :: l, b :: m, p, hl, hm => by
    have hl' := List.pairwise_cons.mp hl
    have hm' := List.pairwise_cons.mp hm
    have e : a = b := by
      rcases List.mem_cons.mp (p.mem_iff.mp List.mem_cons_self) with e | ha
      · exact e
      · rcases List.mem_cons.mp (p.mem_iff.mpr List.mem_cons_self) with e | hb
        · exact e.symm
        · exact (before_asymm (hl'.1 b hb) (hm'.1 a ha)).elim
    subst e
    rw [sorted_unique ((List.perm_cons a).mp p) hl'.2 hm'.2]
theorem order_unique {ws : List Int} {l : List Nat} (p : l.Perm (List.range ws.length)) (h : l.Pairwise (before ws)) : l = order ws := by
  obtain ⟨q1, q2⟩ := foldr_insW ws (List.nodup_range (n := ws.length))
  exact sorted_unique (p.trans q1.symm) h q2
theorem order_perm (ws : List Int) : (order ws).Perm (List.range ws.length) := (foldr_insW ws List.nodup_range).1
theorem order_lt {ws : List Int} {i : Nat} (h : i ∈ order ws) : i < ws.length := List.mem_range.mp ((order_perm ws).mem_iff.mp h)
theorem order_len (ws : List Int) : (order ws).length = ws.length := by rw [(order_perm ws).length_eq, List.length_range]
theorem greedyTaken_eq (pts : Points) (s : Nat) : maskOf (greedyTaken (s : Int) (posI pts) (wtI pts)) = Ks591.greedySelection pts s := by
  unfold greedyTaken Ks591.greedySelection
  rw [take_fold0 pts s _ _ (fun i hi => by have z := order_lt hi; rw [wtI_len] at z; exact z) ((order_perm _).nodup_iff.mpr List.nodup_range), order_eq]
  simp only [Bool.true_and]
end Sx
namespace Sx
open Ks591 (Point Points pointAt)
/-! ### the weight of the best selection without a point -/
def without (ns : List Int) (i : Nat) : List Int := ns.take (2 * i) ++ ns.drop (2 * i + 2)
theorem toPts_without : ∀ (ns : List Int) (i : Nat), ns.length % 2 = 0 → toPts (without ns i) = (toPts ns).eraseIdx i
  | [], i, _ => by
    unfold without
    rw [List.take_nil, List.drop_nil]
    rfl
  | [_], _, h => absurd h (by simp)
  | a :: b :: r, 0, _ => rfl
  | a :: b :: r, i + 1, h => by
    have ih := toPts_without r i (by simp only [List.length_cons] at h; omega)
    unfold without at ih ⊢
    show toPts (a :: b :: (r.take (2 * i) ++ r.drop (2 * i + 2))) = _
    show (⟨a.toNat, b.toNat⟩ : Point) :: toPts (r.take (2 * i) ++ r.drop (2 * i + 2)) = _
    rw [ih]
    rfl
theorem without_mem {ns : List Int} {i : Nat} {x : Int} (h : x ∈ without ns i) : x ∈ ns := by
  rcases List.mem_append.mp h with h | h
  · exact List.mem_of_mem_take h
  · exact List.mem_of_mem_drop h
theorem without_len {ns : List Int} {i : Nat} (h : i < ns.length / 2) (e : ns.length % 2 = 0) : (without ns i).length = ns.length - 2 := by
  unfold without
  rw [List.length_append, List.length_take, List.length_drop]
  omega
def widen (i m : Nat) : Nat := 2 ^ (i + 1) * (m / 2 ^ i) + m % 2 ^ i
theorem widen_bit (i m j : Nat) : (widen i m).testBit j = if j < i then m.testBit j else if j = i then false else m.testBit (j - 1) := by
  unfold widen
  have hlt : m % 2 ^ i < 2 ^ (i + 1) := Nat.lt_of_lt_of_le (Nat.mod_lt _ (Nat.two_pow_pos i)) (Nat.pow_le_pow_right (by decide) (Nat.le_succ i))
  rw [Nat.testBit_two_pow_mul_add _ hlt]
  by_cases h1 : j < i
  · rw [if_pos (by omega), if_pos h1, Nat.testBit_mod_two_pow, decide_eq_true h1, Bool.true_and]
  · rw [if_neg h1]
    by_cases h2 : j = i
    · rw [if_pos (by omega), if_pos h2, Nat.testBit_mod_two_pow, decide_eq_false h1, Bool.false_and]
    · rw [if_neg (by omega), if_neg h2, Nat.testBit_div_two_pow]
      congr 1
      omega
theorem widen_at (i m : Nat) : (widen i m).testBit i = false := by
  rw [widen_bit, if_neg (by omega), if_pos rfl]
theorem widen_gt (i m j : Nat) : (widen i m).testBit (i + 1 + j) = m.testBit (i + j) := by
  rw [widen_bit, if_neg (by omega), if_neg (by omega)]
  congr 1
  omega
theorem erase_gt {pts : Points} {i j : Nat} : pointAt (pts.eraseIdx i) (i + j) = pointAt pts (i + 1 + j) := by
  unfold pointAt
  rw [List.getD_eq_getElem?_getD, List.getElem?_eraseIdx, if_neg (by omega), List.getD_eq_getElem?_getD]
  congr 2
  omega
theorem erase_at {pts : Points} {i j : Nat} : pointAt (pts.eraseIdx i) j = if j < i then pointAt pts j else pointAt pts (j + 1) := by
  unfold pointAt
  rw [List.getD_eq_getElem?_getD, List.getElem?_eraseIdx]
  by_cases h : j < i
  · rw [if_pos h, if_pos h, List.getD_eq_getElem?_getD]
  · rw [if_neg h, if_neg h, List.getD_eq_getElem?_getD]
theorem conflict_erase {pts : Points} {s i a b : Nat} (ha : a ≠ i) (hb : b ≠ i) :
    Ks591.conflict pts s a b = Ks591.conflict (pts.eraseIdx i) s (if a < i then a else a - 1) (if b < i then b else b - 1) := by
  have ea : pointAt (pts.eraseIdx i) (if a < i then a else a - 1) = pointAt pts a := by
    rw [erase_at]
    by_cases h : a < i
    · rw [if_pos h, if_pos h]
    · rw [if_neg h, if_neg (by omega)]
      congr 1
      omega
  have eb : pointAt (pts.eraseIdx i) (if b < i then b else b - 1) = pointAt pts b := by
    rw [erase_at]
    by_cases h : b < i
    · rw [if_pos h, if_pos h]
    · rw [if_neg h, if_neg (by omega)]
      congr 1
      omega
  unfold Ks591.conflict
  rw [ea, eb]
  congr 1
  rw [Bool.eq_iff_iff]
  simp only [bne_iff_ne, ne_eq]
  refine not_congr ?_
  split <;> split <;> omega
theorem erase_len {pts : Points} {i : Nat} (h : i < pts.length) : (pts.eraseIdx i).length = pts.length - 1 := List.length_eraseIdx_of_lt h
theorem widen_valid {pts : Points} {s i m : Nat} (hi : i < pts.length) (h : Ks591.isValidSelection (pts.eraseIdx i) s m = true) : Ks591.isValidSelection pts s (widen i m) = true := by
  rw [specValid_iff] at h ⊢
  intro a b ha hb ba bb
  rw [erase_len hi] at h
  rw [widen_bit] at ba bb
  have na : a ≠ i := by
    intro e
    rw [if_neg (by omega), if_pos e] at ba
    cases ba
  have nb : b ≠ i := by
    intro e
    rw [if_neg (by omega), if_pos e] at bb
    cases bb
  rw [conflict_erase na nb]
  refine h _ _ ?_ ?_ ?_ ?_
  · split <;> omega
  · split <;> omega
  · by_cases c : a < i
    · rw [if_pos c] at ba ⊢
      exact ba
    · rw [if_neg c, if_neg na] at ba
      rw [if_neg c]
      exact ba
  · by_cases c : b < i
    · rw [if_pos c] at bb ⊢
      exact bb
    · rw [if_neg c, if_neg nb] at bb
      rw [if_neg c]
      exact bb
theorem widen_weight {pts : Points} {i m : Nat} (hi : i < pts.length) : Ks591.weightOf pts (widen i m) = Ks591.weightOf (pts.eraseIdx i) m := by
  unfold Ks591.weightOf
  rw [erase_len hi]
  have e1 : pts.length = i + 1 + (pts.length - 1 - i) := by omega
  have e2 : pts.length - 1 = i + (pts.length - 1 - i) := by omega
  have r1 : List.range pts.length = List.range i ++ [i] ++ (List.range (pts.length - 1 - i)).map (fun x => i + 1 + x) := by
    conv => lhs; rw [e1]
    rw [List.range_add, List.range_succ]
  have r2 : List.range (pts.length - 1) = List.range i ++ (List.range (pts.length - 1 - i)).map (fun x => i + x) := by
    conv => lhs; rw [e2]
    rw [List.range_add]
  rw [r1, r2, List.map_append, List.map_append, List.map_append, List.sum_append_nat, List.sum_append_nat, List.sum_append_nat, List.map_map, List.map_map]
  have z1 : ((List.range i).map fun j => if (widen i m).testBit j = true then (pointAt pts j).weight else 0) = (List.range i).map fun j => if m.testBit j = true then (pointAt (pts.eraseIdx i) j).weight else 0 := by
    refine List.map_congr_left fun j hj => ?_
    have hj := List.mem_range.mp hj
    rw [widen_bit, if_pos hj, erase_at, if_pos hj]
  have z2 : ([i].map fun j => if (widen i m).testBit j = true then (pointAt pts j).weight else 0).sum = 0 := by
    show ([if (widen i m).testBit i = true then (pointAt pts i).weight else 0] : List Nat).sum = 0
    rw [widen_at, if_neg (by simp)]
    rfl
  have z3 : ((List.range (pts.length - 1 - i)).map ((fun j => if (widen i m).testBit j = true then (pointAt pts j).weight else 0) ∘ fun x => i + 1 + x)) = (List.range (pts.length - 1 - i)).map ((fun j => if m.testBit j = true then (pointAt (pts.eraseIdx i) j).weight else 0) ∘ fun x => i + x) := by
    refine List.map_congr_left fun j _ => ?_
    show (if (widen i m).testBit (i + 1 + j) = true then (pointAt pts (i + 1 + j)).weight else 0) = if m.testBit (i + j) = true then (pointAt (pts.eraseIdx i) (i + j)).weight else 0
    rw [widen_gt, erase_gt]
  rw [z1, z2, z3, Nat.add_zero]
abbrev bestF (pts : Points) (s : Nat) : Nat → Nat → Nat := fun best mask => if (Ks591.isValidSelection pts s mask && decide (Ks591.weightOf pts best < Ks591.weightOf pts mask)) = true then mask else best
theorem bestF_ge (pts : Points) (s : Nat) : ∀ (l : List Nat) (b : Nat), Ks591.weightOf pts b ≤ Ks591.weightOf pts (l.foldl (bestF pts s) b) ∧ ∀ m ∈ l, Ks591.isValidSelection pts s m = true → Ks591.weightOf pts m ≤ Ks591.weightOf pts (l.foldl (bestF pts s) b)
  | [], _ => ⟨Nat.le_refl _, fun _ h => absurd h (by simp)⟩
  | a :: r, b => by
    rw [List.foldl_cons]
    obtain ⟨h1, h2⟩ := bestF_ge pts s r (bestF pts s b a)
    have g : Ks591.weightOf pts b ≤ Ks591.weightOf pts (bestF pts s b a) := by
      show _ ≤ Ks591.weightOf pts (if (Ks591.isValidSelection pts s a && decide (Ks591.weightOf pts b < Ks591.weightOf pts a)) = true then a else b)
      split
      · rename_i q
        simp only [Bool.and_eq_true, decide_eq_true_eq] at q
        omega
      · exact Nat.le_refl _
    refine ⟨Nat.le_trans g h1, fun m hm hv => ?_⟩
    rcases List.mem_cons.mp hm with e | hm
    · subst e
      refine Nat.le_trans ?_ h1
      show _ ≤ Ks591.weightOf pts (if (Ks591.isValidSelection pts s m && decide (Ks591.weightOf pts b < Ks591.weightOf pts m)) = true then m else b)
      split
      · exact Nat.le_refl _
      · rename_i q
        simp only [hv, Bool.true_and, decide_eq_true_eq] at q
        omega
    · exact h2 m hm hv
theorem bestF_in (pts : Points) (s : Nat) : ∀ (l : List Nat) (b : Nat), l.foldl (bestF pts s) b = b ∨ (l.foldl (bestF pts s) b ∈ l ∧ Ks591.isValidSelection pts s (l.foldl (bestF pts s) b) = true)
  | [], _ => .inl rfl
  | a :: r, b => by
    rw [List.foldl_cons]
    rcases bestF_in pts s r (bestF pts s b a) with e | ⟨h1, h2⟩
    · rw [e]
      show (if (Ks591.isValidSelection pts s a && decide (Ks591.weightOf pts b < Ks591.weightOf pts a)) = true then a else b) = b ∨ ((if (Ks591.isValidSelection pts s a && decide (Ks591.weightOf pts b < Ks591.weightOf pts a)) = true then a else b) ∈ a :: r ∧ Ks591.isValidSelection pts s (if (Ks591.isValidSelection pts s a && decide (Ks591.weightOf pts b < Ks591.weightOf pts a)) = true then a else b) = true)
      split
      · rename_i q
        simp only [Bool.and_eq_true, decide_eq_true_eq] at q
        exact .inr ⟨List.mem_cons_self, q.1⟩
      · exact .inl rfl
    · exact .inr ⟨List.mem_cons_of_mem _ h1, h2⟩
theorem zero_valid (pts : Points) (s : Nat) : Ks591.isValidSelection pts s 0 = true := by
  rw [specValid_iff]
  intro i j _ _ bi _
  rw [Nat.zero_testBit] at bi
  cases bi
theorem best_valid (pts : Points) (s : Nat) : Ks591.isValidSelection pts s (Ks591.bestSelection pts s) = true ∧ Ks591.bestSelection pts s < 2 ^ pts.length := by
  rcases bestF_in pts s (List.range (2 ^ pts.length)) 0 with e | ⟨h1, h2⟩
  · unfold Ks591.bestSelection
    rw [show List.foldl _ 0 (List.range (2 ^ pts.length)) = 0 from e]
    exact ⟨zero_valid pts s, Nat.two_pow_pos _⟩
  · exact ⟨h2, List.mem_range.mp h1⟩
theorem best_ge (pts : Points) (s : Nat) {m : Nat} (hm : m < 2 ^ pts.length) (hv : Ks591.isValidSelection pts s m = true) : Ks591.weightOf pts m ≤ Ks591.weightOf pts (Ks591.bestSelection pts s) :=
  (bestF_ge pts s (List.range (2 ^ pts.length)) 0).2 m (List.mem_range.mpr hm) hv
theorem widen_lt {i m n : Nat} (hi : i < n) (hm : m < 2 ^ (n - 1)) : widen i m < 2 ^ n := by
  apply Nat.lt_pow_two_of_testBit
  intro j hj
  rw [widen_bit, if_neg (by omega), if_neg (by omega)]
  exact Nat.testBit_lt_two_pow (Nat.lt_of_lt_of_le hm (Nat.pow_le_pow_right (by decide) (by omega)))
/-- THE POINT OF STATEMENT 7: a point more never makes the best selection lighter -/
theorem best_without (pts : Points) (s i : Nat) (hi : i < pts.length) : Ks591.weightOf (pts.eraseIdx i) (Ks591.bestSelection (pts.eraseIdx i) s) ≤ Ks591.weightOf pts (Ks591.bestSelection pts s) := by
  obtain ⟨h1, h2⟩ := best_valid (pts.eraseIdx i) s
  rw [erase_len hi] at h2
  rw [← widen_weight hi]
  exact best_ge pts s (widen_lt hi h2) (widen_valid hi h1)
end Sx
namespace Sx
open Ks591 (Point Points pointAt)
/-! ### the seven laws: what the program computes is what is due -/
def outBest (sp : Int) (ns : List Int) : List Int := if okPts sp ns = true then [wOf (odds ns) (best sp (evens ns) (odds ns)), (best sp (evens ns) (odds ns) : Int)] else [-22]
def outEval (sp mk : Int) (ns : List Int) : List Int :=
  if okPts sp ns = true then (if mk ≤ 2 ^ (ns.length / 2) - 1 then [if valid sp (evens ns) mk.toNat = true then 1 else 0, wOf (odds ns) mk.toNat] else [-22]) else [-22]
def outPrices (sp : Int) (ns : List Int) : List Int :=
  if okPts sp ns = true then [(computed sp (evens ns) (odds ns)).sum, (maskOf (priceTaken sp (evens ns) (computed sp (evens ns) (odds ns))) : Int)] ++ computed sp (evens ns) (odds ns) else [-22]
def outCheck (sp : Int) (ns pr : List Int) : List Int :=
  if okPts sp ns = true then (if pr.length = ns.length / 2 ∧ allBetween pr 0 999 = true then [if sufficient sp (evens ns) (odds ns) pr = true then 1 else 0, pr.sum] else [-22]) else [-22]
def outGreedy (sp : Int) (ns : List Int) : List Int :=
  if okPts sp ns = true then [wOf (odds ns) (maskOf (greedyTaken sp (evens ns) (odds ns))), (maskOf (greedyTaken sp (evens ns) (odds ns)) : Int)] else [-22]
def outCount (sp : Int) (ns : List Int) : List Int := if okPts sp ns = true then [(count sp (evens ns) : Int)] else [-22]
def greatest (sp : Int) (ns : List Int) : Int := wOf (odds ns) (best sp (evens ns) (odds ns))
def outMarginal (sp ix : Int) (ns : List Int) : List Int :=
  if okPts sp ns = true then (if ix ≤ (ns.length / 2 : Nat) - 1 then [greatest sp ns - greatest sp (without ns ix.toNat)] else [-2]) else [-22]
theorem ints_ite {c : Prop} [Decidable c] {a b : Ks591.Result} : Ks591Neutral.integers (if c then a else b) = if c then Ks591Neutral.integers a else Ks591Neutral.integers b := by
  by_cases h : c
  · rw [if_pos h, if_pos h]
  · rw [if_neg h, if_neg h]
theorem ite_congr_pos {α : Type} {c : Prop} [Decidable c] {a b d : α} (h : c → a = b) : (if c then a else d) = if c then b else d := by
  by_cases k : c
  · rw [if_pos k, if_pos k, h k]
  · rw [if_neg k, if_neg k]
section
variable {sp : Int} {ns : List Int} (h0 : 0 ≤ sp) (h : ∀ x ∈ ns, 0 ≤ x)
include h0 h
theorem law_best : PyKs591.best_selection sp ns = outBest sp ns := by
  show Ks591Neutral.integers (Ks591.withPoints sp.toNat (ns.map Int.toNat) fun points => { value := Ks591.weightOf points (Ks591.bestSelection points sp.toNat), rest := [Ks591.bestSelection points sp.toNat] }) = _
  rw [withPoints_eq h0 h, ints_ite]
  refine ite_congr_pos fun ok => ?_
  rw [← posI_toPts h (okPts_even ok).1, ← wtI_toPts h]
  obtain ⟨s, rfl⟩ := Int.eq_ofNat_of_zero_le h0
  rw [best_eq, wOf_eq]
  rfl
theorem law_eval {mk : Int} (hm : 0 ≤ mk) : PyKs591.evaluate_selection sp mk ns = outEval sp mk ns := by
  show Ks591Neutral.integers (Ks591.withPoints sp.toNat (ns.map Int.toNat) fun points => if 2 ^ points.length ≤ mk.toNat then Ks591.number (-22)
    else { value := if Ks591.isValidSelection points sp.toNat mk.toNat then 1 else 0, rest := [Ks591.weightOf points mk.toNat] }) = _
  rw [withPoints_eq h0 h, ints_ite]
  refine ite_congr_pos fun ok => ?_
  rw [← posI_toPts h (okPts_even ok).1, ← wtI_toPts h, ← toPts_len]
  obtain ⟨s, rfl⟩ := Int.eq_ofNat_of_zero_le h0
  obtain ⟨m, rfl⟩ := Int.eq_ofNat_of_zero_le hm
  rw [Int.toNat_natCast, Int.toNat_natCast, valid_eq, wOf_eq]
  by_cases c : 2 ^ (toPts ns).length ≤ m
  · rw [if_pos c, if_neg]
    · rfl
    · intro q
      have z : ((2 ^ (toPts ns).length : Nat) : Int) = 2 ^ (toPts ns).length := by simp
      omega
  · have z : ((2 ^ (toPts ns).length : Nat) : Int) = 2 ^ (toPts ns).length := by simp
    have d : (m : Int) ≤ 2 ^ (toPts ns).length - 1 := by omega
    rw [if_neg c, if_pos d]
    rfl
theorem law_prices : PyKs591.prices sp ns = outPrices sp ns := by
  show Ks591Neutral.integers (Ks591.withPoints sp.toNat (ns.map Int.toNat) fun points => { value := (Ks591.pricesOf points sp.toNat).sum, rest := Ks591.priceSelection points sp.toNat :: Ks591.pricesOf points sp.toNat }) = _
  rw [withPoints_eq h0 h, ints_ite]
  refine ite_congr_pos fun ok => ?_
  rw [← posI_toPts h (okPts_even ok).1, ← wtI_toPts h]
  obtain ⟨s, rfl⟩ := Int.eq_ofNat_of_zero_le h0
  rw [priceTaken_eq, computed_eq, ← sum_cast]
  rfl
theorem law_check {pr : List Int} (hp : ∀ x ∈ pr, 0 ≤ x) : PyKs591.check_prices sp ns pr = outCheck sp ns pr := by
  show Ks591Neutral.integers (Ks591.withPoints sp.toNat (ns.map Int.toNat) fun points => if (pr.map Int.toNat).length ≠ points.length ∨ ((pr.map Int.toNat).any fun x => decide (999 < x)) = true then Ks591.number (-22)
    else { value := if Ks591.arePricesSufficient points sp.toNat (pr.map Int.toNat) then 1 else 0, rest := [(pr.map Int.toNat).sum] }) = _
  rw [withPoints_eq h0 h, ints_ite]
  refine ite_congr_pos fun ok => ?_
  rw [← posI_toPts h (okPts_even ok).1, ← wtI_toPts h, ← toPts_len]
  obtain ⟨s, rfl⟩ := Int.eq_ofNat_of_zero_le h0
  have e : pr = (pr.map Int.toNat).map fun (x : Nat) => (x : Int) := by
    rw [List.map_map]
    conv => lhs; rw [← List.map_id pr]
    refine List.map_congr_left fun x hx => ?_
    exact (Int.toNat_of_nonneg (hp x hx)).symm
  generalize pr.map Int.toNat = p at e
  subst e
  have el : (List.map (fun (x : Nat) => (x : Int)) p).length = p.length := List.length_map ..
  rw [el, Int.toNat_natCast]
  have ea : allBetween (p.map fun (x : Nat) => (x : Int)) 0 999 = !(p.any fun x => decide (999 < x)) := by
    unfold allBetween between
    rw [List.all_map, List.not_any_eq_all_not]
    refine congrArg (List.all p) (funext fun x => ?_)
    show (decide ((0 : Int) ≤ (x : Int)) && decide ((x : Int) ≤ 999)) = _
    rw [decide_eq_true (by omega : (0 : Int) ≤ (x : Int)), Bool.true_and, Bool.eq_iff_iff]
    simp
    omega
  rw [ea, ← sum_cast]
  by_cases c : p.length ≠ (toPts ns).length ∨ (p.any fun x => decide (999 < x)) = true
  · rw [if_pos c, if_neg]
    · rfl
    · rintro ⟨q1, q2⟩
      rcases c with c | c
      · exact c q1
      · rw [c] at q2
        cases q2
  · have c1 : p.length = (toPts ns).length := by
      by_cases q : p.length = (toPts ns).length
      · exact q
      · exact absurd (.inl q) c
    have c2 : (!(p.any fun x => decide (999 < x))) = true := by
      cases q : p.any fun x => decide (999 < x)
      · rfl
      · exact absurd (.inr q) c
    rw [sufficient_eq _ _ _ c1, if_neg c, if_pos (And.intro c1 c2)]
    rfl
theorem law_greedy : PyKs591.greedy_selection sp ns = outGreedy sp ns := by
  show Ks591Neutral.integers (Ks591.withPoints sp.toNat (ns.map Int.toNat) fun points => { value := Ks591.weightOf points (Ks591.greedySelection points sp.toNat), rest := [Ks591.greedySelection points sp.toNat] }) = _
  rw [withPoints_eq h0 h, ints_ite]
  refine ite_congr_pos fun ok => ?_
  rw [← posI_toPts h (okPts_even ok).1, ← wtI_toPts h]
  obtain ⟨s, rfl⟩ := Int.eq_ofNat_of_zero_le h0
  rw [greedyTaken_eq, wOf_eq]
  rfl
theorem law_count : PyKs591.max_count sp ns = outCount sp ns := by
  show Ks591Neutral.integers (Ks591.withPoints sp.toNat (ns.map Int.toNat) fun points => Ks591.number (Ks591.maxCount points sp.toNat)) = _
  rw [withPoints_eq h0 h, ints_ite]
  refine ite_congr_pos fun ok => ?_
  rw [← posI_toPts h (okPts_even ok).1]
  obtain ⟨s, rfl⟩ := Int.eq_ofNat_of_zero_le h0
  rw [count_eq]
  rfl
theorem law_marginal {ix : Int} (hx : 0 ≤ ix) : PyKs591.marginal_weight sp ix ns = outMarginal sp ix ns := by
  show Ks591Neutral.integers (Ks591.withPoints sp.toNat (ns.map Int.toNat) fun points => if points.length ≤ ix.toNat then Ks591.number (-2)
    else Ks591.number ((Ks591.weightOf points (Ks591.bestSelection points sp.toNat) - Ks591.weightOf (points.eraseIdx ix.toNat) (Ks591.bestSelection (points.eraseIdx ix.toNat) sp.toNat) : Nat) : Int)) = _
  rw [withPoints_eq h0 h, ints_ite]
  refine ite_congr_pos fun ok => ?_
  have ev := (okPts_even ok).1
  obtain ⟨s, rfl⟩ := Int.eq_ofNat_of_zero_le h0
  obtain ⟨i, rfl⟩ := Int.eq_ofNat_of_zero_le hx
  rw [ints_ite, Int.toNat_natCast, Int.toNat_natCast, ← toPts_len]
  by_cases c : (toPts ns).length ≤ i
  · rw [if_pos c, if_neg (by omega)]
    rfl
  · rw [if_neg c, if_pos (by omega)]
    have hi : i < (toPts ns).length := by omega
    have hi2 : i < ns.length / 2 := by rw [← toPts_len]; exact hi
    have z := best_without (toPts ns) s i hi
    have h' : ∀ x ∈ without ns i, 0 ≤ x := fun x hx => h x (without_mem hx)
    have ev' : (without ns i).length % 2 = 0 := by
      rw [without_len hi2 ev]
      omega
    unfold greatest
    rw [← posI_toPts h ev, ← wtI_toPts h, ← posI_toPts h' ev', ← wtI_toPts h', toPts_without ns i ev, best_eq, best_eq, wOf_eq, wOf_eq]
    show [((Ks591.weightOf (toPts ns) (Ks591.bestSelection (toPts ns) s) - Ks591.weightOf ((toPts ns).eraseIdx i) (Ks591.bestSelection ((toPts ns).eraseIdx i) s) : Nat) : Int)] = _
    rw [Int.ofNat_sub z]
end
end Sx
namespace Sx
/-! ### sorted pairs (less, point) are the order of the greedy selection -/
theorem order_pairs {α : Type} {ws : List Int} {kf : α → Int × Int} {xs ys : List α} (p : ys.Perm xs) (hx : xs.map kf = (List.range ws.length).map fun (i : Nat) => (0 - ws.getD i 0, (i : Int)))
    (hs : ys.Pairwise fun x y => ¬ ((kf y).1 < (kf x).1 ∨ ((kf y).1 = (kf x).1 ∧ (kf y).2 < (kf x).2))) : (ys.map fun y => (kf y).2) = (order ws).map fun (i : Nat) => (i : Int) := by
  have hy : ∀ y ∈ ys, ∃ i : Nat, i < ws.length ∧ kf y = (0 - ws.getD i 0, (i : Int)) := fun y h => by
    have m : kf y ∈ xs.map kf := List.mem_map.mpr ⟨y, p.mem_iff.mp h, rfl⟩
    rw [hx, List.mem_map] at m
    obtain ⟨i, hi, e⟩ := m
    exact ⟨i, List.mem_range.mp hi, e.symm⟩
  have pl : (ys.map fun y => (kf y).2.toNat).Perm (List.range ws.length) := by
    have e : (xs.map fun x => (kf x).2.toNat) = List.range ws.length := by
      have e1 : (xs.map fun x => (kf x).2.toNat) = (xs.map kf).map fun q => q.2.toNat := by
        rw [List.map_map]
        rfl
      rw [e1, hx, List.map_map]
      have e2 : ((fun q : Int × Int => q.2.toNat) ∘ fun (i : Nat) => ((0 - ws.getD i 0, (i : Int)) : Int × Int)) = id := by
        funext i
        rfl
      rw [e2, List.map_id]
    rw [← e]
    exact p.map _
  have nd : (ys.map fun y => (kf y).2.toNat).Nodup := pl.nodup_iff.mpr List.nodup_range
  have nd2 : ys.Pairwise fun x y => (kf x).2.toNat ≠ (kf y).2.toNat := List.pairwise_map.mp nd
  have so : (ys.map fun y => (kf y).2.toNat).Pairwise (before ws) := by
    rw [List.pairwise_map]
    refine (hs.and nd2).imp_of_mem fun {x y} mx my h => ?_
    obtain ⟨i, _, ex⟩ := hy x mx
    obtain ⟨j, _, ey⟩ := hy y my
    obtain ⟨h1, h2⟩ := h
    rw [ex, ey] at h1 h2
    rw [ex, ey]
    unfold before
    show ws.getD j 0 < ws.getD i 0 ∨ (ws.getD i 0 = ws.getD j 0 ∧ i < j)
    have h2 : i ≠ j := h2
    have h1 : ¬ (0 - ws.getD j 0 < 0 - ws.getD i 0 ∨ (0 - ws.getD j 0 = 0 - ws.getD i 0 ∧ (j : Int) < (i : Int))) := h1
    omega
  rw [← order_unique pl so, List.map_map]
  refine List.map_congr_left fun y h => ?_
  obtain ⟨i, _, e⟩ := hy y h
  show (kf y).2 = (((kf y).2.toNat : Nat) : Int)
  rw [e]
  rfl
end Sx
namespace Sx
open PySem PySem.Spec PyProof.Rows L2
/-! ### xs[::2], xs[1::2] -/
theorem evens_map {α β : Type} (f : α → β) : ∀ l : List α, evens (l.map f) = (evens l).map f
  | [] => rfl
  | [_] => rfl
  | x :: _ :: r => by
    show f x :: evens (r.map f) = f x :: (evens r).map f
    rw [evens_map f r]
theorem odds_map {α β : Type} (f : α → β) : ∀ l : List α, odds (l.map f) = (odds l).map f
  | [] => rfl
  | [_] => rfl
  | _ :: y :: r => by
    show f y :: odds (r.map f) = f y :: (odds r).map f
    rw [odds_map f r]
theorem pick_evens {α : Type} : ∀ l : List α, ((List.range ((l.length + 1) / 2)).filterMap fun k => l[2 * k]?) = evens l
  | [] => by
    rw [show (([] : List α).length + 1) / 2 = 0 by simp]
    rfl
  | [x] => by
    rw [show (([x] : List α).length + 1) / 2 = 1 by simp]
    rfl
  | a :: b :: r => by
    have e : ((a :: b :: r).length + 1) / 2 = (r.length + 1) / 2 + 1 := by
      simp only [List.length_cons]
      omega
    rw [e, List.range_succ_eq_map, List.filterMap_cons, List.filterMap_map]
    show a :: _ = a :: evens r
    rw [← pick_evens r]
    rfl
theorem pick_odds {α : Type} : ∀ l : List α, ((List.range (l.length / 2)).filterMap fun k => l[2 * k + 1]?) = odds l
  | [] => by
    rw [show ([] : List α).length / 2 = 0 by simp]
    rfl
  | [x] => by
    rw [show ([x] : List α).length / 2 = 0 by simp]
    rfl
  | a :: b :: r => by
    have e : (a :: b :: r).length / 2 = r.length / 2 + 1 := by
      simp only [List.length_cons]
      omega
    rw [e, List.range_succ_eq_map, List.filterMap_cons, List.filterMap_map]
    show b :: _ = b :: odds r
    rw [← pick_odds r]
    rfl
theorem slice_evens (its : List Value) : slicePick its.toArray none none (some 2) = (evens its).toArray := by
  unfold slicePick
  have b : sliceBounds none none (some 2) its.toArray.size = (0, (its.length : Int), 2) := by
    simp [sliceBounds]
  rw [b]
  congr 1
  rw [← pick_evens its]
  show (sliceRange 0 (its.length : Int) 2).filterMap (its.toArray[·]?) = _
  have r : sliceRange 0 (its.length : Int) 2 = (List.range ((its.length + 1) / 2)).map fun k => 2 * k := by
    unfold sliceRange
    have c : ((if (2 : Int) > 0 then (if (0 : Int) < (its.length : Int) then ((its.length : Int) - 0 + 2 - 1) / 2 else 0) else (if (0 : Int) > (its.length : Int) then ((0 : Int) - its.length - 2 - 1) / (-2) else 0)).toNat) = (its.length + 1) / 2 := by
      rw [if_pos (by decide)]
      split <;> omega
    dsimp only
    rw [c]
    refine List.map_congr_left fun k _ => ?_
    omega
  rw [r, List.filterMap_map]
  congr 1
  funext k
  simp
theorem slice_odds (its : List Value) : slicePick its.toArray (some 1) none (some 2) = (odds its).toArray := by
  unfold slicePick
  have b : sliceBounds (some 1) none (some 2) its.toArray.size = (((min 1 its.length : Nat) : Int), (its.length : Int), 2) := by
    simp only [sliceBounds, Option.getD_some, List.size_toArray]
    rw [if_pos (by decide), if_neg (by decide), if_pos (by decide)]
    congr 1
    omega
  rw [b]
  congr 1
  rw [← pick_odds its]
  show (sliceRange ((min 1 its.length : Nat) : Int) (its.length : Int) 2).filterMap (its.toArray[·]?) = _
  have r : sliceRange ((min 1 its.length : Nat) : Int) (its.length : Int) 2 = (List.range (its.length / 2)).map fun k => 2 * k + 1 := by
    unfold sliceRange
    have c : ((if (2 : Int) > 0 then (if ((min 1 its.length : Nat) : Int) < (its.length : Int) then ((its.length : Int) - ((min 1 its.length : Nat) : Int) + 2 - 1) / 2 else 0) else (if ((min 1 its.length : Nat) : Int) > (its.length : Int) then (((min 1 its.length : Nat) : Int) - its.length - 2 - 1) / (-2) else 0)).toNat) = its.length / 2 := by
      rw [if_pos (by decide)]
      split <;> omega
    dsimp only
    rw [c]
    refine List.map_congr_left fun k hk => ?_
    have hk := List.mem_range.mp hk
    omega
  rw [r, List.filterMap_map]
  congr 1
  funext k
  simp
theorem vals_evens : ∀ {xs : List V} {us : List Value}, Vals xs us → Vals (evens xs) (evens us)
  | _, _, .nil => .nil
  | _, _, .cons r .nil => .cons r .nil
  | _, _, .cons r (.cons _ t) => .cons r (vals_evens t)
theorem vals_odds : ∀ {xs : List V} {us : List Value}, Vals xs us → Vals (odds xs) (odds us)
  | _, _, .nil => .nil
  | _, _, .cons _ .nil => .nil
  | _, _, .cons _ (.cons r t) => .cons r (vals_odds t)
/-- what a slice with a step asks: a list; a new list of the picked items is handed back -/
def tStep (K : PySem.W.Frag) (f : List V → List V) (te : TE) : TE := fun σ H Q =>
  te σ H fun x H1 => ∃ a xs, x = .ref a ∧ SqL K H1 a xs ∧ ∀ p, H1 p = none → Q (.ref p) (upd H1 p (.lst (f xs)))
section
variable {X : Cx}
/-- a slice lo::st of a list, lo and st written: f tells which items are picked -/
theorem pe_step {e : Expr} {te : TE} {lo st : Option Expr} {tl ts : TO} {i j : Option Int} {f : List V → List V} {g : List Value → List Value} {p3 pos : Pos}
    (he : PE X e te) (hlo : PO X lo tl) (hst : PO X st ts) (vlo : ∀ σ H, tl σ H fun o H' => o = i ∧ H' = H) (vst : ∀ σ H, ts σ H fun o H' => o = j ∧ H' = H) (hj : j ≠ some 0)
    (pick : ∀ us, slicePick us.toArray i none j = (g us).toArray) (vals : ∀ xs us, Vals xs us → Vals (f xs) (g us)) (short : ∀ xs, (f xs).length ≤ xs.length)
    (sub : ∀ a b, subscripted (.Slice lo none st p3) false (.ref a) (.ref b) = operate [.ref a, .ref b] (getItem (.ref a) (.ref b)) := by intro _ _; with_unfolding_all rfl) :
    PE X (.Subscript e (.Slice lo none st p3) pos) (tStep X.K f te) := by
  refine ⟨fun pins s0 σ H Q inv0 ask => Subscript_ (thn (he.run pins s0 σ H _ inv0 ask) fun v0 s1 r0 => ?_)⟩
  obtain ⟨x0, G1, inv1, rel, b, zs, ex, at1, back⟩ := r0
  subst ex
  cases rel
  refine wpAny_Slice (thn (hlo.run pins s1 σ G1 (fun o G => o = i ∧ G = G1) inv1 (vlo σ G1)) fun w1 s2 r1 => ?_)
  obtain ⟨o1, G2, inv2, part1, q1, q2⟩ := r1
  subst q1 q2
  refine thn (po_none.run pins s2 σ G2 (fun o G => o = none ∧ G = G2) inv2 ⟨rfl, rfl⟩) fun w2 s3 r2 => ?_
  obtain ⟨o2, G3, inv3, part2, q3, q4⟩ := r2
  subst q3 q4
  refine thn (hst.run pins s3 σ G3 (fun o G => o = j ∧ G = G3) inv3 (vst σ G3)) fun w3 s4 r3 => ?_
  obtain ⟨o3, G4, inv4, part3, q5, q6⟩ := r3
  subst q5 q6
  -- the slice object itself is not tracked
  have inv5 : Inv X pins σ G4 { s4 with heap := s4.heap.push { cls := .type "slice", data := .fields #[w1, w2, w3] } } :=
    inv4.kept (t' := s4.toks) fun c oc hc => Heap.get?_push_of_some _ hc
  obtain ⟨us, rv, plain, fitsLine⟩ := inv5.list at1
  have same := rv.length
  show wpAny (model X.prog X.w) X.A (subscriptTail e (.Slice lo none st p3) (.ref b) (.ref s4.heap.objs.size)) (EP X pins σ Q) X.xe _
  refine tail_any (ops := [.ref b, .ref s4.heap.objs.size]) plain.isList.typeIs PySem.slot_list_getitem.lookup ?_ (sub _ _)
  refine wpAny_getItem_list_slice plain.isList (Heap.IsSliceOf.new _ w1 w2 w3) part1 part2 part3 hj ?_ (by rw [List.size_toArray, ← same]; exact fitsLine)
  rw [pick us]
  have room : (f zs).length ≤ sizeLine := Nat.le_trans (short zs) fitsLine
  refine ⟨.ref _, _, inv5.laid (t' := s4.toks) (o := .lst (f zs)) (fun c oc hc => Heap.get?_push_of_some _ hc) (Nat.le_refl _) ⟨room, g us, 0, vals _ _ rv, ?_⟩, rfl, back _ (inv5.hok.fresh (Nat.le_refl _))⟩
  exact Heap.get?_push_size _ rfl
theorem pe_evens {e : Expr} {te : TE} {k : Nat} {p1 p3 pos : Pos} (he : PE X e te) : PE X (.Subscript e (.Slice none none (some (.Constant (.int 2) k p1)) p3) pos) (tStep X.K evens te) :=
  pe_step (i := none) (j := some 2) (g := evens) he po_none (po_some pe_int) (fun _ _ => ⟨rfl, rfl⟩) (fun _ _ => ⟨2, rfl, rfl, rfl⟩) (by decide) slice_evens (fun _ _ => vals_evens) fun xs => by
    rw [evens_len]
    omega
theorem pe_odds {e : Expr} {te : TE} {k n : Nat} {p0 p1 p3 pos : Pos} (he : PE X e te) : PE X (.Subscript e (.Slice (some (.Constant (.int 1) n p0)) none (some (.Constant (.int 2) k p1)) p3) pos) (tStep X.K odds te) :=
  pe_step (i := some 1) (j := some 2) (g := odds) he (po_some pe_int) (po_some pe_int) (fun _ _ => ⟨1, rfl, rfl, rfl⟩) (fun _ _ => ⟨2, rfl, rfl, rfl⟩) (by decide) slice_odds (fun _ _ => vals_odds) fun xs => by
    rw [odds_len]
    omega
end
end Sx
namespace Sx
open PySem PySem.Spec PyProof.Rows L2
open PySem.W (Codec)
/-! ### what a def promises, in general -/
abbrev NewL (H : Hp) (Q : VK) (l : List Int) : Prop := ∀ H' p, Same H H' → H p = none → H' p = some (.lst (l.map V.int)) → Q (.ref p) H'
abbrev Gives (H : Hp) (Q : VK) (v : V) : Prop := ∀ H', Same H H' → Q v H'
abbrev ofN (l : List Nat) : List Int := l.map fun (i : Nat) => (i : Int)
/-- a def of the top, by its name: where it stands, that it keeps its promise -/
structure Def (P : Program) (w : World) (K : PySem.W.Frag) (mg : Str → Option Value) (base : Heap) (k : Nat) (x : Str) (ps : List Str) (sp : Sp) : Prop where
  ex : ∃ f fd, FnOk P w K mg base CX0 k f fd ps sp ∧ mg x = some (.ref f) ∧ PySem.W.keepIn K (.ref f) = true ∧ Binds K fd ps []
theorem same_upd {H : Hp} {p : Addr} {o : HO} (h : H p = none) : Same H (upd H p o) := fun b x e => by
  rw [upd_ne (ne_of_none e h)]
  exact e
theorem same_new {H H' : Hp} {p : Addr} {o : HO} (s : Same H H') (h : H p = none) : Same H (upd H' p o) := fun b x e => by
  rw [upd_ne (ne_of_none e h)]
  exact s _ _ e
theorem item {ns : List Int} {i : Nat} {x : V} (h : (ns.map V.int)[i]? = some x) : ∃ z, ns[i]? = some z ∧ x = V.int z := by
  rw [List.getElem?_map] at h
  cases e : ns[i]? with
  | none => rw [e] at h; cases h
  | some z => rw [e] at h; exact ⟨z, rfl, (Option.some.inj h).symm⟩
theorem itemN {l : List Nat} {i : Nat} {x : V} (h : ((ofN l).map V.int)[i]? = some x) : ∃ j : Nat, l[i]? = some j ∧ x = V.int (j : Int) := by
  obtain ⟨z, h1, rfl⟩ := item h
  rw [List.getElem?_map] at h1
  cases e : l[i]? with
  | none => rw [e] at h1; cases h1
  | some j => rw [e] at h1; exact ⟨j, rfl, by rw [← Option.some.inj h1]⟩
theorem at_nat {ns : List Int} {i : Nat} (h : i < ns.length) : atI (ns.map V.int) (i : Int) = some (.int (ns.getD i 0)) := by
  refine atI_nat ?_
  rw [List.getElem?_map, List.getElem?_eq_getElem h, getD_lt h]
  rfl
theorem take_snoc {α : Type} {l : List α} {i : Nat} {x : α} (h : l[i]? = some x) : l.take (i + 1) = l.take i ++ [x] := by
  rw [List.take_add_one, h]
  rfl
theorem len_of {α : Type} {l : List α} {i : Nat} {x : α} (h : l[i]? = some x) : i < l.length := (List.getElem?_eq_some_iff.mp h).1
theorem range_snoc (i : Nat) : List.range (i + 1) = List.range i ++ [i] := List.range_succ
theorem lenV (ns : List Int) : (ns.map V.int).length = ns.length := List.length_map ..
theorem lenN (l : List Nat) : (ofN l).length = l.length := List.length_map ..
theorem lineLt {n : Nat} (h : n ≤ 5000) : n < sizeLine := Nat.lt_of_le_of_lt h (by decide)
theorem lineLe {n : Nat} (h : n ≤ 5000) : n ≤ sizeLine := Nat.le_of_lt (lineLt h)
theorem bit_one (m i : Nat) : Builtin.bitAnd ((m : Int) / 2 ^ i) 1 = ((m / 2 ^ i % 2 : Nat) : Int) := by
  have e : ((m : Int) / 2 ^ i) = ((m / 2 ^ i : Nat) : Int) := by
    rw [Int.natCast_ediv]
    simp
  rw [e, bitAnd_pp (Int.natCast_nonneg _) (by decide), Int.toNat_natCast]
  show (((m / 2 ^ i) &&& 1 : Nat) : Int) = _
  rw [Nat.and_one_is_mod]
theorem vN_snoc (l : List Nat) (j : Nat) : (ofN (l ++ [j])).map V.int = (ofN l).map V.int ++ [V.int (j : Int)] := by
  rw [ofN, List.map_append, List.map_append]
  rfl
theorem vI_snoc (l : List Int) (j : Int) : (l ++ [j]).map V.int = l.map V.int ++ [V.int j] := by
  rw [List.map_append]
  rfl
theorem at_natN {l : List Nat} {i : Nat} (h : i < l.length) : atI ((ofN l).map V.int) (i : Int) = some (.int ((l.getD i 0 : Nat) : Int)) := by
  refine atI_nat ?_
  rw [List.getElem?_map, List.getElem?_map, List.getElem?_eq_getElem h, getD_lt h]
  rfl
theorem cut_to (xs : List V) (i : Nat) : cutV xs none (some (i : Int)) = xs.take i := by
  unfold cutV
  rw [HT.sIx_none, HT.sIx_nat, List.drop_zero, Nat.sub_zero]
  by_cases h : i ≤ xs.length
  · rw [Nat.min_eq_left h]
  · rw [Nat.min_eq_right (by omega), List.take_of_length_le (Nat.le_refl _), List.take_of_length_le (by omega)]
theorem cut_from (xs : List V) (i : Nat) : cutV xs (some (i : Int)) none = xs.drop i := by
  unfold cutV
  rw [HT.sIx_none, HT.sIx_nat]
  by_cases h : i ≤ xs.length
  · rw [Nat.min_eq_left h, List.take_of_length_le (by rw [List.length_drop]; omega)]
  · rw [Nat.min_eq_right (by omega), List.drop_of_length_le (Nat.le_refl _), List.drop_of_length_le (by omega), List.take_nil]
theorem shl_one (n : Nat) : (1 : Int) * 2 ^ ((n : Nat) : Int).toNat = ((2 ^ n : Nat) : Int) := by
  rw [Int.one_mul, Int.toNat_natCast]
  simp
theorem pow12 {n : Nat} (h : n ≤ 12) : 2 ^ n ≤ 4096 := Nat.le_trans (Nat.pow_le_pow_right (by decide) h) (by decide)
theorem yesGo {σ : L2.St} {H : Hp} {A B : Hp → Prop} (h : A H) : tYes σ H fun b H3 => if b = true then A H3 else B H3 := by
  show if true = true then A H else B H
  rw [if_pos rfl]
  exact h
theorem inI {m z : Int} (h : Codec.inInt (Int.ofNat 0) m z = true) : 0 ≤ z := (Codec.inInt_iff.mp h).1
theorem inL {n : Nat} {m : Int} {l : List Int} (h : (Codec.inLen 0 n l && l.all (Codec.inInt (Int.ofNat 0) m)) = true) : l.length ≤ n ∧ ∀ x ∈ l, 0 ≤ x := by
  rw [Bool.and_eq_true, List.all_eq_true] at h
  exact ⟨(Codec.inNat_iff.mp h.1).2, fun x hx => inI (h.2 x hx)⟩
theorem taken_sub (sp : Int) (ps : List Int) (c : Nat → Bool) : ∀ (l t : List Nat), (∀ j ∈ l.foldl (takeStep sp ps c) t, j ∈ t ∨ j ∈ l) ∧ (l.foldl (takeStep sp ps c) t).length ≤ l.length + t.length
  | [], t => ⟨fun j h => .inl h, by simp⟩
  | i :: r, t => by
    rw [List.foldl_cons]
    obtain ⟨h1, h2⟩ := taken_sub sp ps c r (takeStep sp ps c t i)
    unfold takeStep at h1 h2 ⊢
    by_cases e : (c i && fits sp ps i t) = true
    · rw [if_pos e] at h1 h2 ⊢
      refine ⟨fun j hj => ?_, ?_⟩
      · rcases h1 j hj with z | z
        · rcases List.mem_append.mp z with z | z
          · exact .inl z
          · rw [List.mem_singleton.mp z]
            exact .inr List.mem_cons_self
        · exact .inr (List.mem_cons_of_mem _ z)
      · rw [List.length_append, List.length_singleton] at h2
        rw [List.length_cons]
        omega
    · rw [if_neg e] at h1 h2 ⊢
      refine ⟨fun j hj => ?_, ?_⟩
      · rcases h1 j hj with z | z
        · exact .inl z
        · exact .inr (List.mem_cons_of_mem _ z)
      · rw [List.length_cons]
        omega
theorem computed_len (sp : Int) (ns : List Int) (he : ns.length % 2 = 0) : (computed sp (evens ns) (odds ns)).length = ns.length / 2 := by
  have elen : (evens ns).length = ns.length / 2 := by
    rw [evens_len]
    omega
  unfold computed
  rw [elen]
  generalize ns.length / 2 = n
  induction n with
  | zero => rfl
  | succ i ih =>
    rw [range_snoc, List.foldl_append]
    show (priceStep sp (evens ns) (odds ns) ((List.range i).foldl (priceStep sp (evens ns) (odds ns)) []) i).length = i + 1
    unfold priceStep at ih ⊢
    rw [List.length_append, ih]
    rfl
/-! ### the text by places -/
def topS (i : Nat) : Stmt := PySem.Challenge.pw_spreadpicks_s05_greedy_selection.main.body.getD i (.Pass ⟨0, 0, 0, 0⟩)
abbrev s_positions_of : Stmt := topS 1
abbrev s_weights_of : Stmt := topS 2
abbrev s_count_of : Stmt := topS 3
abbrev s_are_in_conflict : Stmt := topS 4
abbrev s_fits : Stmt := topS 5
abbrev s_members_of : Stmt := topS 7
abbrev s_mask_of : Stmt := topS 8
abbrev s_weight_of : Stmt := topS 9
abbrev s_order_of : Stmt := topS 12
abbrev s_greedy_mask : Stmt := topS 13
abbrev s_is_between : Stmt := topS 19
abbrev s_are_all_between : Stmt := topS 20
abbrev s_are_rising : Stmt := topS 21
abbrev s_is_spacing : Stmt := topS 22
abbrev s_are_points : Stmt := topS 23
abbrev s_are_spaced_points : Stmt := topS 24
abbrev s_greedy_selection : Stmt := topS 26
section
variable {P : Program} {w : World} {K : PySem.W.Frag} {mg : Str → Option Value} {base : Heap}
/-! ### positions_of -/
theorem sc_positions_of : FnScope ["points"] ["points"] (defScope s_positions_of) := ⟨rfl, rfl, rfl, by decide +kernel, rfl, by decide +kernel, by decide +kernel⟩
def spPos (K : PySem.W.Frag) : Sp := fun vs H Q _ => ∃ (a : Addr) (ns : List Int), vs = [.ref a] ∧ SqL K H a (ns.map V.int) ∧ NewL H Q (evens ns)
theorem ok_positions_of {f : Addr} {fd : FuncData} (F : Fun K "positions_of" "positions_of" s_positions_of f fd) (g : mg "positions_of" = some (.ref f)) : Def P w K mg base 1 "positions_of" ["points"] (spPos K) := by
  have sc := sc_positions_of
  refine ⟨f, fd, ?_, g, F.kp, F.binds fun _ _ _ _ _ _ us hl => match us, hl with | [_], _ => rfl⟩
  refine F.ok sc (fun vs H Q E h => ?_) (fun cdv A outer s H vs Q E hr h => ?_)
  · obtain ⟨a, ns, rfl, _⟩ := h
    rfl
  · obtain ⟨a, ns, rfl, hS, q⟩ := h
    refine ⟨_, pss_one (ps_ret (pe_evens (pv 0))), ?_⟩
    refine ⟨_, rfl, a, _, rfl, hS, fun p hp => q _ p (same_upd hp) hp ?_⟩
    rw [upd_same, evens_map]
/-! ### weights_of -/
theorem sc_weights_of : FnScope ["points"] ["points"] (defScope s_weights_of) := ⟨rfl, rfl, rfl, by decide +kernel, rfl, by decide +kernel, by decide +kernel⟩
def spWts (K : PySem.W.Frag) : Sp := fun vs H Q _ => ∃ (a : Addr) (ns : List Int), vs = [.ref a] ∧ SqL K H a (ns.map V.int) ∧ NewL H Q (odds ns)
theorem ok_weights_of {f : Addr} {fd : FuncData} (F : Fun K "weights_of" "weights_of" s_weights_of f fd) (g : mg "weights_of" = some (.ref f)) : Def P w K mg base 1 "weights_of" ["points"] (spWts K) := by
  have sc := sc_weights_of
  refine ⟨f, fd, ?_, g, F.kp, F.binds fun _ _ _ _ _ _ us hl => match us, hl with | [_], _ => rfl⟩
  refine F.ok sc (fun vs H Q E h => ?_) (fun cdv A outer s H vs Q E hr h => ?_)
  · obtain ⟨a, ns, rfl, _⟩ := h
    rfl
  · obtain ⟨a, ns, rfl, hS, q⟩ := h
    refine ⟨_, pss_one (ps_ret (pe_odds (pv 0))), ?_⟩
    refine ⟨_, rfl, a, _, rfl, hS, fun p hp => q _ p (same_upd hp) hp ?_⟩
    rw [upd_same, odds_map]
/-! ### count_of -/
theorem sc_count_of : FnScope ["points"] ["points"] (defScope s_count_of) := ⟨rfl, rfl, rfl, by decide +kernel, rfl, by decide +kernel, by decide +kernel⟩
def spCnt (K : PySem.W.Frag) : Sp := fun vs H Q _ => ∃ (a : Addr) (ns : List Int), vs = [.ref a] ∧ SqL K H a (ns.map V.int) ∧ Gives H Q (.int ((ns.length / 2 : Nat) : Int))
theorem ok_count_of {f : Addr} {fd : FuncData} (F : Fun K "count_of" "count_of" s_count_of f fd) (g : mg "count_of" = some (.ref f)) (z_len : mg "len" = none) : Def P w K mg base 1 "count_of" ["points"] (spCnt K) := by
  have sc := sc_count_of
  refine ⟨f, fd, ?_, g, F.kp, F.binds fun _ _ _ _ _ _ us hl => match us, hl with | [_], _ => rfl⟩
  refine F.ok sc (fun vs H Q E h => ?_) (fun cdv A outer s H vs Q E hr h => ?_)
  · obtain ⟨a, ns, rfl, _⟩ := h
    rfl
  · obtain ⟨a, ns, rfl, hS, q⟩ := h
    refine ⟨_, pss_one (ps_ret (pe_op op_fdiv (pe_callB call_len_seq (by rfl) z_len PySem.boot_len (pa_cons (pv 0) pa_nil)) pe_int)), ?_⟩
    refine ⟨_, rfl, a, _, rfl, .inl hS, _, _, rfl, rfl, ⟨by decide, by decide⟩, ?_⟩
    rw [lenV]
    exact q _ (Same.refl _)
/-! ### are_in_conflict -/
theorem sc_are_in_conflict : FnScope ["spacing", "positions", "one", "other"] ["spacing", "positions", "one", "other"] (defScope s_are_in_conflict) := ⟨rfl, rfl, rfl, by decide +kernel, rfl, by decide +kernel, by decide +kernel⟩
def spConf (K : PySem.W.Frag) : Sp := fun vs H Q _ => ∃ (sp : Int) (a : Addr) (ps : List Int) (i j : Nat), vs = [.int sp, .ref a, .int (i : Int), .int (j : Int)] ∧ SqL K H a (ps.map V.int) ∧ i < ps.length ∧ j < ps.length ∧ Gives H Q (.bl (conf sp ps i j))
theorem ok_are_in_conflict {f : Addr} {fd : FuncData} (F : Fun K "are_in_conflict" "are_in_conflict" s_are_in_conflict f fd) (g : mg "are_in_conflict" = some (.ref f)) (z_abs : mg "abs" = none) : Def P w K mg base 1 "are_in_conflict" ["spacing", "positions", "one", "other"] (spConf K) := by
  have sc := sc_are_in_conflict
  refine ⟨f, fd, ?_, g, F.kp, F.binds fun _ _ _ _ _ _ us hl => match us, hl with | [_, _, _, _], _ => rfl⟩
  refine F.ok sc (fun vs H Q E h => ?_) (fun cdv A outer s H vs Q E hr h => ?_)
  · obtain ⟨sp, a, ps, i, j, rfl, _⟩ := h
    rfl
  · obtain ⟨sp, a, ps, i, j, rfl, hS, hi, hj, q⟩ := h
    refine ⟨_, pss_one (ps_ret (pe_cmpR op_lt (pe_callB call_abs (by rfl) z_abs (by decide +kernel) (pa_cons (pe_op op_sub (pe_ix ix_list (pv 1) (pv 2) (fun _ _ => rfl)) (pe_ix ix_list (pv 1) (pv 3) (fun _ _ => rfl))) pa_nil)) (pv 0) (nomark _))), ?_⟩
    exact ⟨_, rfl, _, rfl, a, _, _, _, rfl, rfl, hS, at_nat hi, _, rfl, _, rfl, a, _, _, _, rfl, rfl, hS, at_nat hj, _, _, rfl, rfl, _, rfl, _, rfl, _, _, rfl, rfl, q _ (Same.refl _)⟩
/-! ### fits -/
theorem sc_fits : FnScope ["spacing", "positions", "point", "taken", "other"] ["spacing", "positions", "point", "taken"] (defScope s_fits) := ⟨rfl, rfl, rfl, by decide +kernel, rfl, by decide +kernel, by decide +kernel⟩
def spFits (K : PySem.W.Frag) : Sp := fun vs H Q _ => ∃ (sp : Int) (a : Addr) (ps : List Int) (i : Nat) (t : Addr) (tk : List Nat), vs = [.int sp, .ref a, .int (i : Int), .ref t] ∧ SqL K H a (ps.map V.int) ∧ SqL K H t ((ofN tk).map V.int) ∧ i < ps.length ∧ (∀ j ∈ tk, j < ps.length) ∧ Gives H Q (.bl (fits sp ps i tk))
theorem ok_fits {f : Addr} {fd : FuncData} (F : Fun K "fits" "fits" s_fits f fd) (g : mg "fits" = some (.ref f)) (D_are_in_conflict : Def P w K mg base 1 "are_in_conflict" ["spacing", "positions", "one", "other"] (spConf K)) : Def P w K mg base 2 "fits" ["spacing", "positions", "point", "taken"] (spFits K) := by
  have sc := sc_fits
  obtain ⟨f_are_in_conflict, fd_are_in_conflict, G_are_in_conflict, g_are_in_conflict, kp_are_in_conflict, b_are_in_conflict⟩ := D_are_in_conflict.ex
  refine ⟨f, fd, ?_, g, F.kp, F.binds fun _ _ _ _ _ _ us hl => match us, hl with | [_, _, _, _], _ => rfl⟩
  refine F.ok sc (fun vs H Q E h => ?_) (fun cdv A outer s H vs Q E hr h => ?_)
  · obtain ⟨sp, a, ps, i, t, tk, rfl, _⟩ := h
    rfl
  · obtain ⟨sp, a, ps, i0, t, tk, rfl, hS, hT, hi, htk, q⟩ := h
    refine ⟨_, pss_cons (ps_for PassesOwn.never rfl (pi_list (pv 3)) (pg_name (i := 4) sc.nd rfl (.inl rfl))
      (pss_one (ps_if (pt_val (pe_call G_are_in_conflict hr (by rfl) g_are_in_conflict kp_are_in_conflict b_are_in_conflict .nil pass0 (pa_cons (pv 0) (pa_cons (pv 1) (pa_cons (pv 2) (pa_cons (pv 4) pa_nil)))))) (pss_one (ps_ret pe_bl)) pss_nil)))
      (pss_one (ps_ret pe_bl)), ?_⟩
    refine ⟨_, rfl, t, rfl, ⟨_, hT⟩, for_list (K := K) (a := t) (xs := (ofN tk).map V.int)
      (fun i σ H' => ∃ v, σ = [some (.int sp), some (.ref a), some (.int (i0 : Int)), some (.ref t), v] ∧ Same H H' ∧ fits sp ps i0 (tk.take i) = true)
      ⟨none, rfl, Same.refl _, rfl⟩ (fun i σ H' _ ⟨_, _, s1, _⟩ => s1.seq hT) ?_ ?_⟩
    · rintro i x σ H1 hx ⟨v, rfl, s1, hf⟩
      obtain ⟨j, hj, rfl⟩ := itemN hx
      refine ⟨_, rfl, _, rfl, _, rfl, _, rfl, sp, a, ps, i0, j, rfl, s1.seq hS, hi, htk j (List.mem_of_getElem? hj), fun H2 s2 => ⟨_, rfl, ?_⟩⟩
      cases c : conf sp ps i0 j with
      | true =>
        refine iteT ?_
        have z : fits sp ps i0 tk = false := by
          unfold fits
          rw [List.all_eq_false]
          exact ⟨j, List.mem_of_getElem? hj, by rw [c]; decide⟩
        rw [z] at q
        exact q _ (s1.trans s2)
      | false =>
        refine iteF ⟨_, rfl, s1.trans s2, ?_⟩
        rw [take_snoc hj]
        unfold fits at hf ⊢
        rw [List.all_append, hf, List.all_cons, c]
        rfl
    · rintro σ H1 ⟨v, rfl, s1, hf⟩
      rw [lenV, lenN, List.take_length] at hf
      rw [hf] at q
      exact q _ s1
/-! ### members_of -/
theorem sc_members_of : FnScope ["mask", "many", "point"] ["mask", "many"] (defScope s_members_of) := ⟨rfl, rfl, rfl, by decide +kernel, rfl, by decide +kernel, by decide +kernel⟩
def spMembers (K : PySem.W.Frag) : Sp := fun vs H Q _ => ∃ (m n : Nat), vs = [.int (m : Int), .int (n : Int)] ∧ n ≤ 1000 ∧ NewL H Q (ofN (members m n))
theorem ok_members_of {f : Addr} {fd : FuncData} (F : Fun K "members_of" "members_of" s_members_of f fd) (g : mg "members_of" = some (.ref f)) (z_range : mg "range" = none) : Def P w K mg base 1 "members_of" ["mask", "many"] (spMembers K) := by
  have sc := sc_members_of
  refine ⟨f, fd, ?_, g, F.kp, F.binds fun _ _ _ _ _ _ us hl => match us, hl with | [_, _], _ => rfl⟩
  refine F.ok sc (fun vs H Q E h => ?_) (fun cdv A outer s H vs Q E hr h => ?_)
  · obtain ⟨m, n, rfl, _⟩ := h
    rfl
  · obtain ⟨m, n, rfl, hn, q⟩ := h
    refine ⟨_, pss_one (ps_ret (pe_lc (own := [("point", 2)]) (g := gName 2) (by rfl) sc.nd (pi_range1 (by rfl) z_range (pa_cons (pv 1) pa_nil)) (blkOk_by (own := [("point", 2)]) (N := ["mask", "many", "point"]) (sc := defScope s_members_of) (by decide +kernel))
      (fun _ _ _ _ _ => pg_name (i := 2) sc.nd rfl (Or.inl rfl)) (fun _ _ _ _ _ => pts_one (pt_cmpR op_eq (pe_op op_and (pe_op op_shr (pv 0) (pv 2)) pe_int) pe_int (nomark _))) (fun _ _ _ _ _ => pv 2))), ?_⟩
    refine ⟨_, rfl, (n : Int), rfl, by omega, by omega, fun D hD => lc_range (lo := 0) (n := (n : Int).toNat) (fun i H' => Same H H' ∧ H' D = some (.lst ((ofN ((List.range i).filter fun j => m.testBit j)).map V.int)))
      ⟨same_upd hD, upd_same⟩ ?_ ?_⟩
    · rintro i H1 hi ⟨s1, h1⟩
      rw [Int.toNat_natCast] at hi
      refine ⟨rfl, _, rfl, _, rfl, _, _, rfl, rfl, by omega, _, _, rfl, rfl, rfl, _, rfl, ?_⟩
      have eb : decide (V.int (Builtin.bitAnd ((m : Int) / 2 ^ ((0 : Int) + (i : Int)).toNat) 1) = V.int 1) = m.testBit i := by
        rw [show ((0 : Int) + (i : Int)).toNat = i by omega, bit_one, Nat.testBit_eq_decide_div_mod_eq]
        refine decide_eq_decide.mpr ⟨fun e => ?_, fun e => ?_⟩
        · have z := V.int.inj e
          omega
        · rw [e]
          rfl
      rw [eb]
      rw [show List.range (i + 1) = List.range i ++ [i] from List.range_succ, List.filter_append]
      cases c : m.testBit i with
      | true =>
        refine iteT ⟨_, rfl, _, h1, ?_, same_new s1 hD, ?_⟩
        · rw [lenV, lenN]
          refine lineLt (Nat.le_trans (List.length_filter_le _ _) ?_)
          rw [List.length_range]
          omega
        · rw [upd_same, List.filter_cons, if_pos c, List.filter_nil, vN_snoc, Int.zero_add]
      | false =>
        refine iteF ⟨s1, ?_⟩
        rw [List.filter_cons, if_neg (by rw [c]; exact Bool.false_ne_true), List.filter_nil, List.append_nil]
        exact h1
    · rintro H1 ⟨s1, h1⟩
      rw [Int.toNat_natCast] at h1
      exact q _ _ s1 hD h1
/-! ### mask_of -/
theorem sc_mask_of : FnScope ["members", "point"] ["members"] (defScope s_mask_of) := ⟨rfl, rfl, rfl, by decide +kernel, rfl, by decide +kernel, by decide +kernel⟩
def spMaskOf (K : PySem.W.Frag) : Sp := fun vs H Q _ => ∃ (t : Addr) (tk : List Nat), vs = [.ref t] ∧ SqL K H t ((ofN tk).map V.int) ∧ (∀ j ∈ tk, j ≤ 1000) ∧ tk.length ≤ 1000 ∧ Gives H Q (.int (maskOf tk : Int))
theorem ok_mask_of {f : Addr} {fd : FuncData} (F : Fun K "mask_of" "mask_of" s_mask_of f fd) (g : mg "mask_of" = some (.ref f)) (z_sum : mg "sum" = none) : Def P w K mg base 1 "mask_of" ["members"] (spMaskOf K) := by
  have sc := sc_mask_of
  refine ⟨f, fd, ?_, g, F.kp, F.binds fun _ _ _ _ _ _ us hl => match us, hl with | [_], _ => rfl⟩
  refine F.ok sc (fun vs H Q E h => ?_) (fun cdv A outer s H vs Q E hr h => ?_)
  · obtain ⟨t, tk, rfl, _⟩ := h
    rfl
  · obtain ⟨t, tk, rfl, hT, hj1, hl, q⟩ := h
    refine ⟨_, pss_one (ps_ret (pe_callB (cr_sum rfl) (by rfl) z_sum (by decide +kernel) (pa_cons (pe_lc (own := [("point", 1)]) (g := gName 1) (by rfl) sc.nd
      (pi_list (pv 0)) (blkOk_by (own := [("point", 1)]) (N := ["members", "point"]) (sc := defScope s_mask_of) (by decide +kernel))
      (fun _ _ _ _ _ => pg_name (i := 1) sc.nd rfl (Or.inl rfl)) (fun _ _ _ _ _ => pts_nil) (fun _ _ _ _ _ => pe_op op_shl pe_int (pv 1))) pa_nil))), ?_⟩
    refine ⟨_, rfl, t, rfl, ⟨_, hT⟩, fun D hD => lc_list (K := K) (a := t) (xs := (ofN tk).map V.int)
      (fun i H' => Same H H' ∧ H' D = some (.lst ((ofN ((tk.take i).map fun j => 2 ^ j)).map V.int)))
      ⟨same_upd hD, upd_same⟩ (fun i H' _ ⟨s2, _⟩ => s2.seq hT) ?_ ?_⟩
    · rintro i x H2 hx ⟨s2, h2⟩
      obtain ⟨j, hj, rfl⟩ := itemN hx
      have hjm := hj1 j (List.mem_of_getElem? hj)
      refine ⟨rfl, ?_⟩
      refine yesGo ?_
      refine ⟨_, rfl, _, _, rfl, rfl, ⟨by omega, by omega, by decide⟩, _, h2, ?_, same_new s2 hD, ?_⟩
      · rw [lenV, lenN, List.length_map]
        exact lineLt (Nat.le_trans (List.length_take_le' _ _) (by omega))
      · rw [upd_same, take_snoc hj, List.map_append, List.map_singleton, vN_snoc]
        exact congrArg (fun z => some (HO.lst (_ ++ [V.int z]))) (shl_one j)
    · rintro H2 ⟨s2, h2⟩
      rw [lenV, lenN, List.take_length] at h2
      refine ⟨D, _, rfl, SqL.of h2, ?_⟩
      have e : (ofN (tk.map fun j => 2 ^ j)).sum = ((maskOf tk : Nat) : Int) := (sum_cast _).symm
      rw [e]
      exact q _ s2
/-! ### weight_of -/
theorem sc_weight_of : FnScope ["weights", "mask", "point"] ["weights", "mask"] (defScope s_weight_of) := ⟨rfl, rfl, rfl, by decide +kernel, rfl, by decide +kernel, by decide +kernel⟩
def spWeight (K : PySem.W.Frag) : Sp := fun vs H Q _ => ∃ (a : Addr) (ws : List Int) (m : Nat), vs = [.ref a, .int (m : Int)] ∧ SqL K H a (ws.map V.int) ∧ ws.length ≤ 1000 ∧ Gives H Q (.int (wOf ws m))
theorem ok_weight_of {f : Addr} {fd : FuncData} (F : Fun K "weight_of" "weight_of" s_weight_of f fd) (g : mg "weight_of" = some (.ref f)) (z_sum : mg "sum" = none) (z_len : mg "len" = none) (D_members_of : Def P w K mg base 1 "members_of" ["mask", "many"] (spMembers K)) : Def P w K mg base 2 "weight_of" ["weights", "mask"] (spWeight K) := by
  have sc := sc_weight_of
  obtain ⟨f_members_of, fd_members_of, G_members_of, g_members_of, kp_members_of, b_members_of⟩ := D_members_of.ex
  refine ⟨f, fd, ?_, g, F.kp, F.binds fun _ _ _ _ _ _ us hl => match us, hl with | [_, _], _ => rfl⟩
  refine F.ok sc (fun vs H Q E h => ?_) (fun cdv A outer s H vs Q E hr h => ?_)
  · obtain ⟨a, ws, m, rfl, _⟩ := h
    rfl
  · obtain ⟨a, ws, m, rfl, hS, hl, q⟩ := h
    refine ⟨_, pss_one (ps_ret (pe_callB (cr_sum rfl) (by rfl) z_sum (by decide +kernel) (pa_cons (pe_lc (own := [("point", 2)]) (g := gName 2) (te := tOp (rIxL K) (tVar 0) (tVar 2)) (by rfl) sc.nd
      (pi_list (pe_call G_members_of hr (by rfl) g_members_of kp_members_of b_members_of .nil pass0 (pa_cons (pv 1) (pa_cons (pe_callB call_len_seq (by rfl) z_len PySem.boot_len (pa_cons (pv 0) pa_nil)) pa_nil))))
      (blkOk_by (own := [("point", 2)]) (N := ["weights", "mask", "point"]) (sc := defScope s_weight_of) (by decide +kernel))
      (fun _ _ _ _ _ => pg_name (i := 2) sc.nd rfl (Or.inl rfl)) (fun _ _ _ _ _ => pts_nil) (fun _ _ _ _ _ => pe_ix ix_list (pv 0) (pv 2) (fun _ _ => rfl))) pa_nil))), ?_⟩
    refine ⟨_, rfl, _, rfl, a, _, rfl, .inl hS, m, (ws.map V.int).length, rfl, by rw [lenV]; exact hl, fun H1 t s1 nt ht => ?_⟩
    rw [lenV] at ht
    refine ⟨t, rfl, ⟨_, SqL.of ht⟩, fun D hD => lc_list (K := K) (a := t) (xs := (ofN (members m ws.length)).map V.int)
      (fun i H' => Same H1 H' ∧ H' D = some (.lst ((((members m ws.length).take i).map fun j => ws.getD j 0).map V.int)))
      ⟨same_upd hD, upd_same⟩ (fun i H' _ ⟨s2, _⟩ => s2.seq (SqL.of ht)) ?_ ?_⟩
    · rintro i x H2 hx ⟨s2, h2⟩
      obtain ⟨j, hj, rfl⟩ := itemN hx
      have hjm := (mem_members.mp (List.mem_of_getElem? hj)).1
      refine ⟨rfl, ?_⟩
      refine yesGo ?_
      refine ⟨_, rfl, _, rfl, a, _, _, _, rfl, rfl, s2.seq (s1.seq hS), at_nat hjm, _, h2, ?_, same_new s2 hD, ?_⟩
      · rw [lenV, List.length_map]
        refine lineLt (Nat.le_trans (List.length_take_le' _ _) ?_)
        refine Nat.le_trans (List.length_filter_le _ _) ?_
        rw [List.length_range]
        omega
      · rw [upd_same, take_snoc hj, List.map_append, List.map_append]
        rfl
    · rintro H2 ⟨s2, h2⟩
      rw [lenV, lenN, List.take_length] at h2
      exact ⟨D, _, rfl, SqL.of h2, q _ (s1.trans s2)⟩
/-! ### order_of -/
theorem sc_order_of : FnScope ["weights", "rows", "point", "less"] ["weights"] (defScope s_order_of) := ⟨rfl, rfl, rfl, by decide +kernel, rfl, by decide +kernel, by decide +kernel⟩
/-- the pair of ints that a tuple holds -/
def pairOf (H : Hp) : V → Int × Int := fun v => match v with
  | .ref t => match H t with
    | some (.tup [.int i, .int j]) => (i, j)
    | _ => (0, 0)
  | _ => (0, 0)
theorem pairOf_at {H : Hp} {t : Addr} {i j : Int} (h : H t = some (.tup [.int i, .int j])) : pairOf H (.ref t) = (i, j) := by
  show (match H t with
    | some (.tup [.int i, .int j]) => (i, j)
    | _ => (0, 0)) = (i, j)
  rw [h]
def spOrder (K : PySem.W.Frag) : Sp := fun vs H Q _ => ∃ (a : Addr) (ws : List Int), vs = [.ref a] ∧ SqL K H a (ws.map V.int) ∧ ws.length ≤ 1000 ∧ NewL H Q (ofN (order ws))
theorem ok_order_of {f : Addr} {fd : FuncData} (F : Fun K "order_of" "order_of" s_order_of f fd) (g : mg "order_of" = some (.ref f)) (z_sorted : mg "sorted" = none) (z_range : mg "range" = none) (z_len : mg "len" = none) : Def P w K mg base 1 "order_of" ["weights"] (spOrder K) := by
  have sc := sc_order_of
  refine ⟨f, fd, ?_, g, F.kp, F.binds fun _ _ _ _ _ _ us hl => match us, hl with | [_], _ => rfl⟩
  refine F.ok sc (fun vs H Q E h => ?_) (fun cdv A outer s H vs Q E hr h => ?_)
  · obtain ⟨a, ws, rfl, _⟩ := h
    rfl
  · obtain ⟨a, ws, rfl, hS, hl, q⟩ := h
    refine ⟨_, pss_cons (ps_set (i := 1) sc.nd rfl (.inl rfl) (pe_callB cr_sortedPO (by rfl) z_sorted (by decide +kernel) (pa_cons (pe_lc (own := [("point", 2)]) (g := gName 2)
        (te := tTup (tCons (tOp (rI0 fun i j => .int (i - j)) (tC (.int 0)) (tOp (rIxL K) (tVar 0) (tVar 2))) (tCons (tVar 2) tNil))) (by rfl) sc.nd
        (pi_range1 (by rfl) z_range (pa_cons (pe_callB call_len_seq (by rfl) z_len PySem.boot_len (pa_cons (pv 0) pa_nil)) pa_nil)) (blkOk_by (own := [("point", 2)]) (N := ["weights", "rows", "point", "less"]) (sc := defScope s_order_of) (by decide +kernel))
        (fun _ _ _ _ _ => pg_name (i := 2) sc.nd rfl (Or.inl rfl)) (fun _ _ _ _ _ => pts_nil)
        (fun _ _ _ _ _ => pe_tup (pa_cons (pe_op op_sub pe_int (pe_ix ix_list (pv 0) (pv 2) (fun _ _ => rfl))) (pa_cons (pv 2) pa_nil)))) pa_nil)))
      (pss_one (ps_ret (pe_lc (own := [("less", 3), ("point", 2)]) (g := gTup K 2 (gCons (gName 3) (gCons (gName 2) gNil))) (by rfl) sc.nd
        (pi_list (pv 1)) (blkOk_by (own := [("less", 3), ("point", 2)]) (N := ["weights", "rows", "point", "less"]) (sc := defScope s_order_of) (by decide +kernel))
        (fun _ _ _ _ _ => pg_tup rfl (pgs_cons (pg_name (i := 3) sc.nd rfl (Or.inl rfl)) (pgs_cons (pg_name (i := 2) sc.nd rfl (Or.inl rfl)) pgs_nil))) (fun _ _ _ _ _ => pts_nil) (fun _ _ _ _ _ => pv 2)))), ?_⟩
    refine ⟨_, rfl, a, _, rfl, .inl hS, _, rfl, by omega, by rw [lenV]; omega, fun D hD => lc_range (lo := 0) (n := _)
      (fun i H' => Same H H' ∧ ∃ ts : List Addr, ts.length = i ∧ H' D = some (.lst (ts.map V.ref)) ∧ ∀ k t, ts[k]? = some t → H' t = some (.tup [.int (0 - ws.getD k 0), .int (k : Int)]))
      ⟨same_upd hD, [], rfl, upd_same, fun k t e => by simp at e⟩ ?_ ?_⟩
    · rintro i H1 hi ⟨s1, ts, tl, h1, ht⟩
      rw [lenV, Int.toNat_natCast] at hi
      rw [Int.zero_add]
      refine ⟨rfl, ?_⟩
      refine yesGo ?_
      refine ⟨_, rfl, _, rfl, a, _, _, _, rfl, rfl, s1.seq hS, at_nat hi, _, _, rfl, rfl, _, rfl, lineLe (by simp), fun T hT => ⟨_, (same_upd hT) _ _ h1, ?_, same_new (s1.trans (same_upd hT)) hD, ts ++ [T], ?_, ?_, fun k t e => ?_⟩⟩
      · rw [List.length_map]
        exact lineLt (by omega)
      · rw [List.length_append, tl]
        rfl
      · rw [upd_same, List.map_append]
        rfl
      · have tD : D ≠ T := ne_of_none h1 hT
        by_cases c : k < ts.length
        · rw [List.getElem?_append_left c] at e
          have z := ht k t e
          rw [upd_ne (ne_of z h1 (by intro y; cases y)), upd_ne (ne_of_none z hT)]
          exact z
        · rw [List.getElem?_append_right (by omega)] at e
          have e0 : k - ts.length = 0 := by
            cases g0 : k - ts.length with
            | zero => rfl
            | succ n => rw [g0] at e; cases e
          rw [e0] at e
          have e1 : T = t := Option.some.inj e
          subst e1
          have ek : k = i := by omega
          subst ek
          rw [upd_ne tD.symm, upd_same]
    · rintro H1 ⟨s1, ts, tl, h1, ht⟩
      rw [lenV, Int.toNat_natCast] at tl
      have pr : ∀ k t, ts[k]? = some t → pairOf H1 (.ref t) = (0 - ws.getD k 0, (k : Int)) := fun k t e => pairOf_at (ht k t e)
      refine ⟨D, ts.map V.ref, pairOf H1, rfl, SqL.of h1, fun x hx => ?_, fun ys p srt stb np => ?_⟩
      · obtain ⟨t, m, rfl⟩ := List.mem_map.mp hx
        obtain ⟨k, e⟩ := List.getElem?_of_mem m
        refine ⟨t, rfl, ?_⟩
        rw [pr k t e]
        exact ht k t e
      · have s2 : Same H1 (upd H1 p (.lst ys)) := same_upd np
        have yl : ys.length = ws.length := by rw [stb.perm.length_eq, List.length_map, tl]
        have eo : (ys.map fun y => (pairOf H1 y).2) = ofN (order ws) := by
          refine order_pairs stb.perm ?_ (srt.imp fun {x y} z => SrtO.lexB_no.mp z)
          rw [List.map_map]
          refine List.ext_getElem? fun k => ?_
          rw [List.getElem?_map, List.getElem?_map]
          by_cases c : k < ts.length
          · rw [List.getElem?_eq_getElem c, List.getElem?_eq_getElem (by rw [List.length_range]; omega), List.getElem_range]
            show some (pairOf H1 (.ref ts[k])) = some (0 - ws.getD k 0, (k : Int))
            rw [pr k _ (List.getElem?_eq_getElem c)]
          · rw [List.getElem?_eq_none (by omega), List.getElem?_eq_none (by rw [List.length_range]; omega)]
            rfl
        refine ⟨_, rfl, p, rfl, ⟨_, SqL.of upd_same⟩, fun D2 hD2 => lc_list (K := K) (a := p) (xs := ys)
          (fun i H' => Same (upd H1 p (.lst ys)) H' ∧ H' D2 = some (.lst (((ys.take i).map fun y => (pairOf H1 y).2).map V.int)))
          ⟨same_upd hD2, upd_same⟩ (fun i H' _ ⟨s3, _⟩ => s3.seq (SqL.of upd_same)) ?_ ?_⟩
        · rintro i x H3 hx ⟨s3, h3⟩
          have m := stb.perm.mem_iff.mp (List.mem_of_getElem? hx)
          obtain ⟨t, m2, rfl⟩ := List.mem_map.mp m
          obtain ⟨k, e⟩ := List.getElem?_of_mem m2
          refine ⟨t, _, rfl, SqT.of (s3 _ _ (s2 _ _ (ht k t e))), rfl, _, _, rfl, _, _, rfl, rfl, rfl, ?_⟩
          refine yesGo ?_
          refine ⟨_, rfl, _, h3, ?_, same_new s3 hD2, ?_⟩
          · rw [lenV, List.length_map]
            exact lineLt (Nat.le_trans (List.length_take_le' _ _) (by omega))
          · rw [upd_same, take_snoc hx, List.map_append, List.map_append, List.map_singleton, pr k t e]
            rfl
        · rintro H3 ⟨s3, h3⟩
          rw [List.take_length, eo] at h3
          exact q _ D2 (s1.trans (s2.trans s3)) ((s1.trans s2).free hD2) h3
/-! ### greedy_mask -/
theorem sc_greedy_mask : FnScope ["spacing", "points", "positions", "taken", "point"] ["spacing", "points"] (defScope s_greedy_mask) := ⟨rfl, rfl, rfl, by decide +kernel, rfl, by decide +kernel, by decide +kernel⟩
def spGreedy (K : PySem.W.Frag) : Sp := fun vs H Q _ => ∃ (sp : Int) (a : Addr) (ns : List Int), vs = [.int sp, .ref a] ∧ SqL K H a (ns.map V.int) ∧ ns.length % 2 = 0 ∧ ns.length / 2 ≤ 12 ∧ Gives H Q (.int (maskOf (greedyTaken sp (evens ns) (odds ns)) : Int))
theorem ok_greedy_mask {f : Addr} {fd : FuncData} (F : Fun K "greedy_mask" "greedy_mask" s_greedy_mask f fd) (g : mg "greedy_mask" = some (.ref f)) (D_positions_of : Def P w K mg base 1 "positions_of" ["points"] (spPos K)) (D_weights_of : Def P w K mg base 1 "weights_of" ["points"] (spWts K)) (D_order_of : Def P w K mg base 1 "order_of" ["weights"] (spOrder K)) (D_fits : Def P w K mg base 2 "fits" ["spacing", "positions", "point", "taken"] (spFits K)) (D_mask_of : Def P w K mg base 1 "mask_of" ["members"] (spMaskOf K)) : Def P w K mg base 3 "greedy_mask" ["spacing", "points"] (spGreedy K) := by
  have sc := sc_greedy_mask
  obtain ⟨f_positions_of, fd_positions_of, G_positions_of, g_positions_of, kp_positions_of, b_positions_of⟩ := D_positions_of.ex
  obtain ⟨f_weights_of, fd_weights_of, G_weights_of, g_weights_of, kp_weights_of, b_weights_of⟩ := D_weights_of.ex
  obtain ⟨f_order_of, fd_order_of, G_order_of, g_order_of, kp_order_of, b_order_of⟩ := D_order_of.ex
  obtain ⟨f_fits, fd_fits, G_fits, g_fits, kp_fits, b_fits⟩ := D_fits.ex
  obtain ⟨f_mask_of, fd_mask_of, G_mask_of, g_mask_of, kp_mask_of, b_mask_of⟩ := D_mask_of.ex
  refine ⟨f, fd, ?_, g, F.kp, F.binds fun _ _ _ _ _ _ us hl => match us, hl with | [_, _], _ => rfl⟩
  refine F.ok sc (fun vs H Q E h => ?_) (fun cdv A outer s H vs Q E hr h => ?_)
  · obtain ⟨sp, a, ns, rfl, _⟩ := h
    rfl
  · obtain ⟨sp, a, ns, rfl, hS, he, hl, q⟩ := h
    refine ⟨_, pss_cons (ps_set (i := 2) sc.nd rfl (.inl rfl) (pe_call G_positions_of (hr.mono (by decide)) (by rfl) g_positions_of kp_positions_of b_positions_of .nil pass0 (pa_cons (pv 1) pa_nil)))
      (pss_cons (ps_set (i := 3) sc.nd rfl (.inl rfl) (pe_lst pa_nil))
      (pss_cons (ps_for PassesOwn.never rfl (pi_list (pe_call G_order_of (hr.mono (by decide)) (by rfl) g_order_of kp_order_of b_order_of .nil pass0 (pa_cons (pe_call G_weights_of (hr.mono (by decide)) (by rfl) g_weights_of kp_weights_of b_weights_of .nil pass0 (pa_cons (pv 1) pa_nil)) pa_nil))) (pg_name (i := 4) sc.nd rfl (.inl rfl))
        (pss_one (ps_if (pt_val (pe_call G_fits hr (by rfl) g_fits kp_fits b_fits .nil pass0 (pa_cons (pv 0) (pa_cons (pv 2) (pa_cons (pv 4) (pa_cons (pv 3) pa_nil))))))
          (pss_one (ps_expr (pe_bm PySem.F.plainAttrs_list PySem.F.slot_list_append PySem.F.type_list_append mt_append (pv 3) (pa_cons (pv 4) pa_nil)))) pss_nil)))
      (pss_one (ps_ret (pe_call G_mask_of (hr.mono (by decide)) (by rfl) g_mask_of kp_mask_of b_mask_of .nil pass0 (pa_cons (pv 3) pa_nil)))))), ?_⟩
    have elen : (evens ns).length = ns.length / 2 := by
      rw [evens_len]
      omega
    have olen : (odds ns).length = ns.length / 2 := odds_len ns
    have ord : ∀ j ∈ order (odds ns), j < ns.length / 2 := fun j hj => by
      have z := order_lt hj
      omega
    have ordl : (order (odds ns)).length = ns.length / 2 := by rw [order_len, olen]
    have ev : greedyTaken sp (evens ns) (odds ns) = (order (odds ns)).foldl (takeStep sp (evens ns) fun _ => true) [] := rfl
    refine ⟨_, rfl, a, ns, rfl, hS, fun H1 p s1 np hp => ⟨Nat.zero_le _, fun o no => ?_⟩⟩
    have s2 : Same H1 (upd H1 o (.lst [])) := same_upd no
    have keep : ∀ {H'' : Hp} {u : HO}, Same H1 H'' → Same H1 (upd H'' o u) := fun s => same_new s no
    refine ⟨_, rfl, a, ns, rfl, (s1.trans s2).seq hS, fun H2 r s3 nr hr2 => ⟨r, odds ns, rfl, SqL.of hr2, by omega, fun H3 t s4 nt ht => ?_⟩⟩
    generalize order (odds ns) = od at ord ordl ev ht
    have s13 := s2.trans (s3.trans s4)
    have not : o ≠ t := ne_of_none (s3 _ _ upd_same) nt
    refine ⟨t, rfl, ⟨_, SqL.of ht⟩, for_list (K := K) (a := t) (xs := (ofN od).map V.int)
      (fun i σ H' => ∃ v, σ = [some (.int sp), some (.ref a), some (.ref p), some (.ref o), v] ∧ Same H1 H' ∧ H' t = some (.lst ((ofN od).map V.int)) ∧
        H' o = some (.lst ((ofN ((od.take i).foldl (takeStep sp (evens ns) fun _ => true) [])).map V.int)))
      ⟨none, rfl, s13, ht, s4 _ _ (s3 _ _ upd_same)⟩ (fun i σ H' _ ⟨_, _, _, h5, _⟩ => SqL.of h5) ?_ ?_⟩
    · rintro i x σ H4 hx ⟨v, rfl, s5, h5, h6⟩
      obtain ⟨j, hj, rfl⟩ := itemN hx
      have st : (od.take (i + 1)).foldl (takeStep sp (evens ns) fun _ => true) [] = takeStep sp (evens ns) (fun _ => true) ((od.take i).foldl (takeStep sp (evens ns) fun _ => true) []) j := by
        rw [take_snoc hj, List.foldl_append]
        rfl
      have sub := taken_sub sp (evens ns) (fun _ => true) (od.take i) []
      have hlt : ∀ k ∈ (od.take i).foldl (takeStep sp (evens ns) fun _ => true) [], k < ns.length / 2 := fun k hk => by
        rcases sub.1 k hk with z | z
        · cases z
        · exact ord k (List.mem_of_mem_take z)
      have hlen := sub.2
      rw [List.length_take, List.length_nil] at hlen
      generalize (od.take i).foldl (takeStep sp (evens ns) fun _ => true) [] = tk at h6 st hlt hlen
      have hjn := ord j (List.mem_of_getElem? hj)
      refine ⟨_, rfl, _, rfl, _, rfl, _, rfl, sp, p, evens ns, j, o, tk, rfl, SqL.of (s5 _ _ hp), SqL.of h6, by omega, fun k hk => by have := hlt k hk; omega, fun H5 s6 => ⟨_, rfl, ?_⟩⟩
      cases d : fits sp (evens ns) j tk with
      | true =>
        refine iteT ⟨_, rfl, .inl ⟨rfl, _, SqL.of (s6 _ _ h6)⟩, _, rfl, o, _, _, rfl, rfl, s6 _ _ h6, ?_, _, rfl, keep (s5.trans s6), ?_, ?_⟩
        · rw [lenV, lenN]
          exact lineLt (by omega)
        · rw [upd_ne not.symm]
          exact s6 _ _ h5
        · rw [upd_same, st, takeStep, d, if_pos (by rfl), vN_snoc]
      | false =>
        refine iteF ⟨_, rfl, s5.trans s6, s6 _ _ h5, ?_⟩
        rw [st, takeStep, d, if_neg (by decide)]
        exact s6 _ _ h6
    · rintro σ H4 ⟨v, rfl, s5, h5, h6⟩
      rw [lenV, lenN, List.take_length, ← ev] at h6
      have sub := taken_sub sp (evens ns) (fun _ => true) od []
      rw [← ev, ordl] at sub
      have hlen := sub.2
      rw [List.length_nil] at hlen
      refine ⟨_, rfl, o, _, rfl, SqL.of h6, fun j hj => ?_, by omega, fun H5 s6 => q _ (s1.trans (s5.trans s6))⟩
      rcases sub.1 j hj with z | z
      · cases z
      · have := ord j z
        omega
/-! ### is_between -/
theorem sc_is_between : FnScope ["number", "low", "high"] ["number", "low", "high"] (defScope s_is_between) := ⟨rfl, rfl, rfl, by decide +kernel, rfl, by decide +kernel, by decide +kernel⟩
def spBetween (_ : PySem.W.Frag) : Sp := fun vs H Q _ => ∃ (x lo hi : Int), vs = [.int x, .int lo, .int hi] ∧ Gives H Q (.bl (between x lo hi))
theorem ok_is_between {f : Addr} {fd : FuncData} (F : Fun K "is_between" "is_between" s_is_between f fd) (g : mg "is_between" = some (.ref f)) : Def P w K mg base 1 "is_between" ["number", "low", "high"] (spBetween K) := by
  have sc := sc_is_between
  refine ⟨f, fd, ?_, g, F.kp, F.binds fun _ _ _ _ _ _ us hl => match us, hl with | [_, _, _], _ => rfl⟩
  refine F.ok sc (fun vs H Q E h => ?_) (fun cdv A outer s H vs Q E hr h => ?_)
  · obtain ⟨x, lo, hi, rfl, _⟩ := h
    rfl
  · obtain ⟨x, lo, hi, rfl, q⟩ := h
    refine ⟨_, pss_one (ps_ret (pe_chain op_le op_le (pv 1) (pv 0) (pv 2))), ?_⟩
    refine ⟨_, rfl, _, rfl, _, _, rfl, rfl, _, rfl, ?_⟩
    unfold between at q
    cases c : decide (lo ≤ x) with
    | true =>
      rw [c, Bool.true_and] at q
      exact iteT ⟨_, rfl, _, _, rfl, rfl, q _ (Same.refl _)⟩
    | false =>
      rw [c, Bool.false_and] at q
      exact iteF (q _ (Same.refl _))
/-! ### are_all_between -/
theorem sc_are_all_between : FnScope ["numbers", "low", "high", "number"] ["numbers", "low", "high"] (defScope s_are_all_between) := ⟨rfl, rfl, rfl, by decide +kernel, rfl, by decide +kernel, by decide +kernel⟩
def spAllB (K : PySem.W.Frag) : Sp := fun vs H Q _ => ∃ (a : Addr) (l : List Int) (lo hi : Int), vs = [.ref a, .int lo, .int hi] ∧ SqL K H a (l.map V.int) ∧ Gives H Q (.bl (allBetween l lo hi))
theorem ok_are_all_between {f : Addr} {fd : FuncData} (F : Fun K "are_all_between" "are_all_between" s_are_all_between f fd) (g : mg "are_all_between" = some (.ref f)) (D_is_between : Def P w K mg base 1 "is_between" ["number", "low", "high"] (spBetween K)) : Def P w K mg base 2 "are_all_between" ["numbers", "low", "high"] (spAllB K) := by
  have sc := sc_are_all_between
  obtain ⟨f_is_between, fd_is_between, G_is_between, g_is_between, kp_is_between, b_is_between⟩ := D_is_between.ex
  refine ⟨f, fd, ?_, g, F.kp, F.binds fun _ _ _ _ _ _ us hl => match us, hl with | [_, _, _], _ => rfl⟩
  refine F.ok sc (fun vs H Q E h => ?_) (fun cdv A outer s H vs Q E hr h => ?_)
  · obtain ⟨a, l, lo, hi, rfl, _⟩ := h
    rfl
  · obtain ⟨a, l, lo, hi, rfl, hS, q⟩ := h
    refine ⟨_, pss_cons (ps_for PassesOwn.never rfl (pi_list (pv 0)) (pg_name (i := 3) sc.nd rfl (.inl rfl))
      (pss_one (ps_if (pt_not (pt_val (pe_call G_is_between hr (by rfl) g_is_between kp_is_between b_is_between .nil pass0 (pa_cons (pv 3) (pa_cons (pv 1) (pa_cons (pv 2) pa_nil)))))) (pss_one (ps_ret pe_bl)) pss_nil)))
      (pss_one (ps_ret pe_bl)), ?_⟩
    refine ⟨_, rfl, a, rfl, ⟨_, hS⟩, for_list (K := K) (a := a) (xs := l.map V.int)
      (fun i σ H' => ∃ v, σ = [some (.ref a), some (.int lo), some (.int hi), v] ∧ Same H H' ∧ allBetween (l.take i) lo hi = true)
      ⟨none, rfl, Same.refl _, rfl⟩ (fun i σ H' _ ⟨_, _, s1, _⟩ => s1.seq hS) ?_ ?_⟩
    · rintro i x σ H1 hx ⟨v, rfl, s1, hf⟩
      obtain ⟨z, hz, rfl⟩ := item hx
      refine ⟨_, rfl, _, rfl, _, rfl, z, lo, hi, rfl, fun H2 s2 => ⟨_, rfl, ?_⟩⟩
      cases c : between z lo hi with
      | true =>
        refine iteF ⟨_, rfl, s1.trans s2, ?_⟩
        rw [take_snoc hz]
        unfold allBetween at hf ⊢
        rw [List.all_append, hf, List.all_cons, c]
        rfl
      | false =>
        refine iteT ?_
        have e : allBetween l lo hi = false := by
          unfold allBetween
          rw [List.all_eq_false]
          exact ⟨z, List.mem_of_getElem? hz, by rw [c]; decide⟩
        rw [e] at q
        exact q _ (s1.trans s2)
    · rintro σ H1 ⟨v, rfl, s1, hf⟩
      rw [lenV, List.take_length] at hf
      rw [hf] at q
      exact q _ s1
/-! ### are_rising -/
theorem sc_are_rising : FnScope ["numbers", "place"] ["numbers"] (defScope s_are_rising) := ⟨rfl, rfl, rfl, by decide +kernel, rfl, by decide +kernel, by decide +kernel⟩
def spRising (K : PySem.W.Frag) : Sp := fun vs H Q _ => ∃ (a : Addr) (l : List Int), vs = [.ref a] ∧ SqL K H a (l.map V.int) ∧ l.length ≤ 1000 ∧ Gives H Q (.bl (rising l))
theorem ok_are_rising {f : Addr} {fd : FuncData} (F : Fun K "are_rising" "are_rising" s_are_rising f fd) (g : mg "are_rising" = some (.ref f)) (z_range : mg "range" = none) (z_len : mg "len" = none) : Def P w K mg base 1 "are_rising" ["numbers"] (spRising K) := by
  have sc := sc_are_rising
  refine ⟨f, fd, ?_, g, F.kp, F.binds fun _ _ _ _ _ _ us hl => match us, hl with | [_], _ => rfl⟩
  refine F.ok sc (fun vs H Q E h => ?_) (fun cdv A outer s H vs Q E hr h => ?_)
  · obtain ⟨a, l, rfl, _⟩ := h
    rfl
  · obtain ⟨a, l, rfl, hS, hl, q⟩ := h
    refine ⟨_, pss_cons (ps_for PassesOwn.never rfl (pi_range2 (by rfl) z_range (pa_cons pe_int (pa_cons (pe_callB call_len_seq (by rfl) z_len PySem.boot_len (pa_cons (pv 0) pa_nil)) pa_nil))) (pg_name (i := 1) sc.nd rfl (.inl rfl))
      (pss_one (ps_if (pt_cmpR op_le (pe_ix ix_list (pv 0) (pv 1) (fun _ _ => rfl)) (pe_ix ix_list (pv 0) (pe_op op_sub (pv 1) pe_int) (fun _ _ => rfl)) (nomark _)) (pss_one (ps_ret pe_bl)) pss_nil)))
      (pss_one (ps_ret pe_bl)), ?_⟩
    refine ⟨_, rfl, a, _, rfl, .inl hS, _, _, rfl, by rw [lenV]; omega, for_range (lo := 1) (n := _)
      (fun i σ H' => ∃ v, σ = [some (.ref a), v] ∧ Same H H' ∧ ((List.range i).all fun k => decide (l.getD k 0 < l.getD (k + 1) 0)) = true)
      ⟨none, rfl, Same.refl _, rfl⟩ ?_ ?_⟩
    · rintro i σ H1 hi ⟨v, rfl, s1, hf⟩
      rw [lenV] at hi
      have e1 : (1 : Int) + (i : Int) = ((i + 1 : Nat) : Int) := by omega
      have e2 : (((i + 1 : Nat) : Int) - 1) = (i : Int) := by omega
      rw [e1]
      refine ⟨_, rfl, _, rfl, a, _, _, _, rfl, rfl, s1.seq hS, at_nat (by omega), _, rfl, _, rfl, _, _, rfl, rfl, a, _, _, _, rfl, rfl, s1.seq hS, (by rw [e2]; exact at_nat (by omega)), _, _, rfl, rfl, _, rfl, ?_⟩
      by_cases c : l.getD i 0 < l.getD (i + 1) 0
      · rw [decide_eq_false (by omega)]
        refine iteF ⟨_, rfl, s1, ?_⟩
        rw [range_snoc, List.all_append, hf, List.all_cons, decide_eq_true c]
        rfl
      · rw [decide_eq_true (by omega)]
        refine iteT ?_
        have e : rising l = false := by
          unfold rising
          rw [List.all_eq_false]
          exact ⟨i, List.mem_range.mpr (by omega), by rw [decide_eq_false c]; decide⟩
        rw [e] at q
        exact q _ s1
    · rintro σ H1 ⟨v, rfl, s1, hf⟩
      have e : (((l.map V.int).length : Int) - 1).toNat = l.length - 1 := by
        rw [lenV]
        omega
      rw [e] at hf
      have e : rising l = true := hf
      rw [e] at q
      exact q _ s1
/-! ### is_spacing -/
theorem sc_is_spacing : FnScope ["spacing"] ["spacing"] (defScope s_is_spacing) := ⟨rfl, rfl, rfl, by decide +kernel, rfl, by decide +kernel, by decide +kernel⟩
def spIsSp (_ : PySem.W.Frag) : Sp := fun vs H Q _ => ∃ (x : Int), vs = [.int x] ∧ Gives H Q (.bl (between x 1 999))
theorem ok_is_spacing {f : Addr} {fd : FuncData} (F : Fun K "is_spacing" "is_spacing" s_is_spacing f fd) (g : mg "is_spacing" = some (.ref f)) {t_MOST_SPACING : Tok} (n_MOST_SPACING : mg "MOST_SPACING" = some (.int (999) t_MOST_SPACING)) (D_is_between : Def P w K mg base 1 "is_between" ["number", "low", "high"] (spBetween K)) : Def P w K mg base 2 "is_spacing" ["spacing"] (spIsSp K) := by
  have sc := sc_is_spacing
  obtain ⟨f_is_between, fd_is_between, G_is_between, g_is_between, kp_is_between, b_is_between⟩ := D_is_between.ex
  refine ⟨f, fd, ?_, g, F.kp, F.binds fun _ _ _ _ _ _ us hl => match us, hl with | [_], _ => rfl⟩
  refine F.ok sc (fun vs H Q E h => ?_) (fun cdv A outer s H vs Q E hr h => ?_)
  · obtain ⟨x, rfl, _⟩ := h
    rfl
  · obtain ⟨x, rfl, q⟩ := h
    refine ⟨_, pss_one (ps_ret (pe_call G_is_between hr (by rfl) g_is_between kp_is_between b_is_between .nil pass0 (pa_cons (pv 0) (pa_cons pe_int (pa_cons (pe_glob (v := .int 999) rfl n_MOST_SPACING ⟨_, rfl⟩) pa_nil))))), ?_⟩
    exact ⟨_, rfl, x, 1, 999, rfl, q⟩
/-! ### are_points -/
theorem sc_are_points : FnScope ["points", "positions"] ["points"] (defScope s_are_points) := ⟨rfl, rfl, rfl, by decide +kernel, rfl, by decide +kernel, by decide +kernel⟩
def spArePts (K : PySem.W.Frag) : Sp := fun vs H Q _ => ∃ (a : Addr) (ns : List Int), vs = [.ref a] ∧ SqL K H a (ns.map V.int) ∧ ns.length ≤ 1000 ∧ Gives H Q (.bl (arePts ns))
theorem ok_are_points {f : Addr} {fd : FuncData} (F : Fun K "are_points" "are_points" s_are_points f fd) (g : mg "are_points" = some (.ref f)) (z_len : mg "len" = none) {t_MOST_POINTS : Tok} (n_MOST_POINTS : mg "MOST_POINTS" = some (.int (12) t_MOST_POINTS)) {t_MOST_POSITION : Tok} (n_MOST_POSITION : mg "MOST_POSITION" = some (.int (999) t_MOST_POSITION)) {t_MOST_WEIGHT : Tok} (n_MOST_WEIGHT : mg "MOST_WEIGHT" = some (.int (99) t_MOST_WEIGHT)) (D_count_of : Def P w K mg base 1 "count_of" ["points"] (spCnt K)) (D_positions_of : Def P w K mg base 1 "positions_of" ["points"] (spPos K)) (D_are_all_between : Def P w K mg base 2 "are_all_between" ["numbers", "low", "high"] (spAllB K)) (D_are_rising : Def P w K mg base 1 "are_rising" ["numbers"] (spRising K)) (D_weights_of : Def P w K mg base 1 "weights_of" ["points"] (spWts K)) : Def P w K mg base 3 "are_points" ["points"] (spArePts K) := by
  have sc := sc_are_points
  obtain ⟨f_count_of, fd_count_of, G_count_of, g_count_of, kp_count_of, b_count_of⟩ := D_count_of.ex
  obtain ⟨f_positions_of, fd_positions_of, G_positions_of, g_positions_of, kp_positions_of, b_positions_of⟩ := D_positions_of.ex
  obtain ⟨f_are_all_between, fd_are_all_between, G_are_all_between, g_are_all_between, kp_are_all_between, b_are_all_between⟩ := D_are_all_between.ex
  obtain ⟨f_are_rising, fd_are_rising, G_are_rising, g_are_rising, kp_are_rising, b_are_rising⟩ := D_are_rising.ex
  obtain ⟨f_weights_of, fd_weights_of, G_weights_of, g_weights_of, kp_weights_of, b_weights_of⟩ := D_weights_of.ex
  refine ⟨f, fd, ?_, g, F.kp, F.binds fun _ _ _ _ _ _ us hl => match us, hl with | [_], _ => rfl⟩
  refine F.ok sc (fun vs H Q E h => ?_) (fun cdv A outer s H vs Q E hr h => ?_)
  · obtain ⟨a, ns, rfl, _⟩ := h
    rfl
  · obtain ⟨a, ns, rfl, hS, hl, q⟩ := h
    refine ⟨_, pss_cons (ps_if (PW.pt (pw_or (pt_cmpR op_ne (pe_op op_mod (pe_callB call_len_seq (by rfl) z_len PySem.boot_len (pa_cons (pv 0) pa_nil)) pe_int) pe_int (nomark _))
        (pw_or1 (pt_cmpR op_gt (pe_call G_count_of (hr.mono (by decide)) (by rfl) g_count_of kp_count_of b_count_of .nil pass0 (pa_cons (pv 0) pa_nil)) (pe_glob (v := .int 12) rfl n_MOST_POINTS ⟨_, rfl⟩) (nomark _))))) (pss_one (ps_ret pe_bl)) pss_nil)
      (pss_cons (ps_set (i := 1) sc.nd rfl (.inl rfl) (pe_call G_positions_of (hr.mono (by decide)) (by rfl) g_positions_of kp_positions_of b_positions_of .nil pass0 (pa_cons (pv 0) pa_nil)))
      (pss_cons (ps_if (PW.pt (pw_or (pt_not (pt_val (pe_call G_are_all_between hr (by rfl) g_are_all_between kp_are_all_between b_are_all_between .nil pass0 (pa_cons (pv 1) (pa_cons pe_int (pa_cons (pe_glob (v := .int 999) rfl n_MOST_POSITION ⟨_, rfl⟩) pa_nil))))))
        (pw_or1 (pt_not (pt_val (pe_call G_are_rising (hr.mono (by decide)) (by rfl) g_are_rising kp_are_rising b_are_rising .nil pass0 (pa_cons (pv 1) pa_nil))))))) (pss_one (ps_ret pe_bl)) pss_nil)
      (pss_one (ps_ret (pe_call G_are_all_between hr (by rfl) g_are_all_between kp_are_all_between b_are_all_between .nil pass0 (pa_cons (pe_call G_weights_of (hr.mono (by decide)) (by rfl) g_weights_of kp_weights_of b_weights_of .nil pass0 (pa_cons (pv 0) pa_nil)) (pa_cons pe_int (pa_cons (pe_glob (v := .int 99) rfl n_MOST_WEIGHT ⟨_, rfl⟩) pa_nil)))))))), ?_⟩
    have back : ∀ {A B : Bool}, decide (ns.length % 2 = 0) = A → decide (ns.length / 2 ≤ 12) = B → arePts ns = (A && B && (allBetween (evens ns) 0 999 && rising (evens ns) && allBetween (odds ns) 0 99)) := fun e1 e2 => by
      unfold arePts
      rw [e1, e2]
    refine ⟨_, rfl, a, _, rfl, .inl hS, _, _, rfl, rfl, (by show (0 : Int) < 2; decide), rfl, _, rfl, ?_⟩
    rw [lenV]
    have d1 : (!decide (V.int ((ns.length : Int) % 2) = V.int 0)) = !decide (ns.length % 2 = 0) := by
      congr 1
      refine decide_eq_decide.mpr ⟨fun e => ?_, fun e => ?_⟩
      · have z := V.int.inj e
        omega
      · rw [show ((ns.length : Int) % 2) = ((ns.length % 2 : Nat) : Int) by omega, e]
        rfl
    rw [d1]
    by_cases c1 : ns.length % 2 = 0
    · rw [decide_eq_true c1]
      refine iteF ⟨_, rfl, a, ns, rfl, hS, fun H1 s1 => ⟨_, _, rfl, rfl, _, rfl, ?_⟩⟩
      by_cases c2 : ns.length / 2 ≤ 12
      · rw [decide_eq_false (by omega)]
        have q1 := q
        rw [back (decide_eq_true c1) (decide_eq_true c2)] at q1
        refine iteF ⟨_, rfl, a, ns, rfl, s1.seq hS, fun H2 p s2 np hp => ?_⟩
        refine ⟨_, rfl, p, evens ns, 0, 999, rfl, SqL.of hp, fun H3 s3 => ⟨_, rfl, ?_⟩⟩
        cases c3 : allBetween (evens ns) 0 999 with
        | false =>
          rw [c3] at q1
          exact iteT (iteT (q1 _ (s1.trans (s2.trans s3))))
        | true =>
          refine iteF ⟨_, rfl, p, evens ns, rfl, SqL.of (s3 _ _ hp), by rw [evens_len]; omega, fun H4 s4 => ⟨_, rfl, ?_⟩⟩
          cases c4 : rising (evens ns) with
          | false =>
            rw [c3, c4] at q1
            exact iteT (q1 _ (s1.trans (s2.trans (s3.trans s4))))
          | true =>
            rw [c3, c4] at q1
            have s5 := s1.trans (s2.trans (s3.trans s4))
            refine iteF ⟨_, rfl, a, ns, rfl, s5.seq hS, fun H5 r s6 nr hr5 => ?_⟩
            exact ⟨r, odds ns, 0, 99, rfl, SqL.of hr5, fun H6 s7 => q1 _ (s5.trans (s6.trans s7))⟩
      · rw [decide_eq_true (by omega)]
        rw [back (decide_eq_true c1) (decide_eq_false c2)] at q
        exact iteT (q _ s1)
    · rw [decide_eq_false c1]
      rw [back (decide_eq_false c1) rfl] at q
      exact iteT (iteT (q _ (Same.refl _)))
/-! ### are_spaced_points -/
theorem sc_are_spaced_points : FnScope ["spacing", "points"] ["spacing", "points"] (defScope s_are_spaced_points) := ⟨rfl, rfl, rfl, by decide +kernel, rfl, by decide +kernel, by decide +kernel⟩
def spSpaced (K : PySem.W.Frag) : Sp := fun vs H Q _ => ∃ (sp : Int) (a : Addr) (ns : List Int), vs = [.int sp, .ref a] ∧ SqL K H a (ns.map V.int) ∧ ns.length ≤ 1000 ∧ Gives H Q (.bl (okPts sp ns))
theorem ok_are_spaced_points {f : Addr} {fd : FuncData} (F : Fun K "are_spaced_points" "are_spaced_points" s_are_spaced_points f fd) (g : mg "are_spaced_points" = some (.ref f)) (D_is_spacing : Def P w K mg base 2 "is_spacing" ["spacing"] (spIsSp K)) (D_are_points : Def P w K mg base 3 "are_points" ["points"] (spArePts K)) : Def P w K mg base 4 "are_spaced_points" ["spacing", "points"] (spSpaced K) := by
  have sc := sc_are_spaced_points
  obtain ⟨f_is_spacing, fd_is_spacing, G_is_spacing, g_is_spacing, kp_is_spacing, b_is_spacing⟩ := D_is_spacing.ex
  obtain ⟨f_are_points, fd_are_points, G_are_points, g_are_points, kp_are_points, b_are_points⟩ := D_are_points.ex
  refine ⟨f, fd, ?_, g, F.kp, F.binds fun _ _ _ _ _ _ us hl => match us, hl with | [_, _], _ => rfl⟩
  refine F.ok sc (fun vs H Q E h => ?_) (fun cdv A outer s H vs Q E hr h => ?_)
  · obtain ⟨sp, a, ns, rfl, _⟩ := h
    rfl
  · obtain ⟨sp, a, ns, rfl, hS, hl, q⟩ := h
    refine ⟨_, pss_one (ps_ret (pe_and (pe_call G_is_spacing (hr.mono (by decide)) (by rfl) g_is_spacing kp_is_spacing b_is_spacing .nil pass0 (pa_cons (pv 0) pa_nil)) (pe_one (pe_call G_are_points hr (by rfl) g_are_points kp_are_points b_are_points .nil pass0 (pa_cons (pv 1) pa_nil))))), ?_⟩
    refine ⟨_, rfl, sp, rfl, fun H1 s1 => ⟨_, rfl, ?_⟩⟩
    unfold okPts at q
    cases c : between sp 1 999 with
    | true =>
      rw [c, Bool.true_and] at q
      exact iteT ⟨_, rfl, a, ns, rfl, s1.seq hS, hl, fun H2 s2 => q _ (s1.trans s2)⟩
    | false =>
      rw [c, Bool.false_and] at q
      exact iteF (q _ s1)
/-! ### greedy_selection -/
theorem sc_greedy_selection : FnScope ["spacing", "points", "mask"] ["spacing", "points"] (defScope s_greedy_selection) := ⟨rfl, rfl, rfl, by decide +kernel, rfl, by decide +kernel, by decide +kernel⟩
def spAns (K : PySem.W.Frag) : Sp := fun vs H Q _ => ∃ (sp : Int) (a : Addr) (ns : List Int), vs = [.int sp, .ref a] ∧ SqL K H a (ns.map V.int) ∧ ns.length ≤ 27 ∧ ∀ H' p, H' p = some (.lst ((outGreedy sp ns).map V.int)) → Q (.ref p) H'
theorem ok_greedy_selection {f : Addr} {fd : FuncData} (F : Fun K "greedy_selection" "greedy_selection" s_greedy_selection f fd) (g : mg "greedy_selection" = some (.ref f)) {t_OUTSIDE : Tok} (n_OUTSIDE : mg "OUTSIDE" = some (.int (-22) t_OUTSIDE)) (D_are_spaced_points : Def P w K mg base 4 "are_spaced_points" ["spacing", "points"] (spSpaced K)) (D_greedy_mask : Def P w K mg base 3 "greedy_mask" ["spacing", "points"] (spGreedy K)) (D_weight_of : Def P w K mg base 2 "weight_of" ["weights", "mask"] (spWeight K)) (D_weights_of : Def P w K mg base 1 "weights_of" ["points"] (spWts K)) : FnOk P w K mg base CX0 6 f fd ["spacing", "points"] (spAns K) := by
  have sc := sc_greedy_selection
  obtain ⟨f_are_spaced_points, fd_are_spaced_points, G_are_spaced_points, g_are_spaced_points, kp_are_spaced_points, b_are_spaced_points⟩ := D_are_spaced_points.ex
  obtain ⟨f_greedy_mask, fd_greedy_mask, G_greedy_mask, g_greedy_mask, kp_greedy_mask, b_greedy_mask⟩ := D_greedy_mask.ex
  obtain ⟨f_weight_of, fd_weight_of, G_weight_of, g_weight_of, kp_weight_of, b_weight_of⟩ := D_weight_of.ex
  obtain ⟨f_weights_of, fd_weights_of, G_weights_of, g_weights_of, kp_weights_of, b_weights_of⟩ := D_weights_of.ex
  refine F.ok sc (fun vs H Q E h => ?_) (fun cdv A outer s H vs Q E hr h => ?_)
  · obtain ⟨sp, a, ns, rfl, _⟩ := h
    rfl
  · obtain ⟨sp, a, ns, rfl, hS, hl, q⟩ := h
    refine ⟨_, pss_cons (ps_if (pt_not (pt_val (pe_call G_are_spaced_points (hr.mono (by decide)) (by rfl) g_are_spaced_points kp_are_spaced_points b_are_spaced_points .nil pass0 (pa_cons (pv 0) (pa_cons (pv 1) pa_nil))))) (pss_one (ps_ret (pe_lst (pa_cons (pe_glob (v := .int (-22)) rfl n_OUTSIDE ⟨_, rfl⟩) pa_nil)))) pss_nil)
      (pss_cons (ps_set (i := 2) sc.nd rfl (.inl rfl) (pe_call G_greedy_mask (hr.mono (by decide)) (by rfl) g_greedy_mask kp_greedy_mask b_greedy_mask .nil pass0 (pa_cons (pv 0) (pa_cons (pv 1) pa_nil))))
      (pss_one (ps_ret (pe_lst (pa_cons (pe_call G_weight_of (hr.mono (by decide)) (by rfl) g_weight_of kp_weight_of b_weight_of .nil pass0 (pa_cons (pe_call G_weights_of (hr.mono (by decide)) (by rfl) g_weights_of kp_weights_of b_weights_of .nil pass0 (pa_cons (pv 1) pa_nil)) (pa_cons (pv 2) pa_nil))) (pa_cons (pv 2) pa_nil)))))), ?_⟩
    refine ⟨_, rfl, _, rfl, sp, a, ns, rfl, hS, by omega, fun H1 s1 => ⟨_, rfl, ?_⟩⟩
    unfold outGreedy at q
    cases c : okPts sp ns with
    | false =>
      rw [if_neg (by rw [c]; exact Bool.false_ne_true)] at q
      exact iteT ⟨lineLe (by simp), fun p hp => q _ p upd_same⟩
    | true =>
      rw [if_pos c] at q
      have ok := okPts_even c
      refine iteF ⟨_, rfl, _, rfl, sp, a, ns, rfl, s1.seq hS, ok.1, ok.2.1, fun H2 s2 => ?_⟩
      refine ⟨_, rfl, a, ns, rfl, s2.seq (s1.seq hS), fun H3 r s3 nr hr3 => ⟨_, rfl, r, odds ns, _, rfl, SqL.of hr3, by rw [odds_len]; omega, fun H4 s4 => ⟨_, rfl, ?_⟩⟩⟩
      exact ⟨lineLe (by simp), fun u hu => q _ u upd_same⟩
end
theorem all_mk {P : Program} {w : World} {K : PySem.W.Frag} {h : Heap} {mg : Str → Option Value} {fa : Addr} (X : K.In h) (G : h.Ns mainGlobals mg) (hfa : mg "greedy_selection" = some (.ref fa))
    {f_positions_of : Addr} {od_positions_of an_positions_of : Option Addr} {sl_positions_of : Array (Option Value)} {oc_positions_of kV_positions_of dc_positions_of pm_positions_of cd_positions_of ct_positions_of : Value}
    (a_positions_of : PySem.W.nsIn K mainGlobals "positions_of" = some (some (.ref f_positions_of)))
    (l_positions_of : K.lookup f_positions_of = some ⟨oc_positions_of, od_positions_of, .func (PySem.W.fnOf "positions_of" "positions_of" (defArgs s_positions_of) (defBody s_positions_of) (defScope s_positions_of) .none kV_positions_of dc_positions_of pm_positions_of an_positions_of cd_positions_of ct_positions_of), sl_positions_of⟩)
    (c_positions_of : PySem.W.codeIn K cd_positions_of "positions_of" = true) (k_positions_of : PySem.W.keepIn K (.ref f_positions_of) = true)
    {f_weights_of : Addr} {od_weights_of an_weights_of : Option Addr} {sl_weights_of : Array (Option Value)} {oc_weights_of kV_weights_of dc_weights_of pm_weights_of cd_weights_of ct_weights_of : Value}
    (a_weights_of : PySem.W.nsIn K mainGlobals "weights_of" = some (some (.ref f_weights_of)))
    (l_weights_of : K.lookup f_weights_of = some ⟨oc_weights_of, od_weights_of, .func (PySem.W.fnOf "weights_of" "weights_of" (defArgs s_weights_of) (defBody s_weights_of) (defScope s_weights_of) .none kV_weights_of dc_weights_of pm_weights_of an_weights_of cd_weights_of ct_weights_of), sl_weights_of⟩)
    (c_weights_of : PySem.W.codeIn K cd_weights_of "weights_of" = true) (k_weights_of : PySem.W.keepIn K (.ref f_weights_of) = true)
    {f_count_of : Addr} {od_count_of an_count_of : Option Addr} {sl_count_of : Array (Option Value)} {oc_count_of kV_count_of dc_count_of pm_count_of cd_count_of ct_count_of : Value}
    (a_count_of : PySem.W.nsIn K mainGlobals "count_of" = some (some (.ref f_count_of)))
    (l_count_of : K.lookup f_count_of = some ⟨oc_count_of, od_count_of, .func (PySem.W.fnOf "count_of" "count_of" (defArgs s_count_of) (defBody s_count_of) (defScope s_count_of) .none kV_count_of dc_count_of pm_count_of an_count_of cd_count_of ct_count_of), sl_count_of⟩)
    (c_count_of : PySem.W.codeIn K cd_count_of "count_of" = true) (k_count_of : PySem.W.keepIn K (.ref f_count_of) = true)
    {f_are_in_conflict : Addr} {od_are_in_conflict an_are_in_conflict : Option Addr} {sl_are_in_conflict : Array (Option Value)} {oc_are_in_conflict kV_are_in_conflict dc_are_in_conflict pm_are_in_conflict cd_are_in_conflict ct_are_in_conflict : Value}
    (a_are_in_conflict : PySem.W.nsIn K mainGlobals "are_in_conflict" = some (some (.ref f_are_in_conflict)))
    (l_are_in_conflict : K.lookup f_are_in_conflict = some ⟨oc_are_in_conflict, od_are_in_conflict, .func (PySem.W.fnOf "are_in_conflict" "are_in_conflict" (defArgs s_are_in_conflict) (defBody s_are_in_conflict) (defScope s_are_in_conflict) .none kV_are_in_conflict dc_are_in_conflict pm_are_in_conflict an_are_in_conflict cd_are_in_conflict ct_are_in_conflict), sl_are_in_conflict⟩)
    (c_are_in_conflict : PySem.W.codeIn K cd_are_in_conflict "are_in_conflict" = true) (k_are_in_conflict : PySem.W.keepIn K (.ref f_are_in_conflict) = true)
    {f_fits : Addr} {od_fits an_fits : Option Addr} {sl_fits : Array (Option Value)} {oc_fits kV_fits dc_fits pm_fits cd_fits ct_fits : Value}
    (a_fits : PySem.W.nsIn K mainGlobals "fits" = some (some (.ref f_fits)))
    (l_fits : K.lookup f_fits = some ⟨oc_fits, od_fits, .func (PySem.W.fnOf "fits" "fits" (defArgs s_fits) (defBody s_fits) (defScope s_fits) .none kV_fits dc_fits pm_fits an_fits cd_fits ct_fits), sl_fits⟩)
    (c_fits : PySem.W.codeIn K cd_fits "fits" = true) (k_fits : PySem.W.keepIn K (.ref f_fits) = true)
    {f_members_of : Addr} {od_members_of an_members_of : Option Addr} {sl_members_of : Array (Option Value)} {oc_members_of kV_members_of dc_members_of pm_members_of cd_members_of ct_members_of : Value}
    (a_members_of : PySem.W.nsIn K mainGlobals "members_of" = some (some (.ref f_members_of)))
    (l_members_of : K.lookup f_members_of = some ⟨oc_members_of, od_members_of, .func (PySem.W.fnOf "members_of" "members_of" (defArgs s_members_of) (defBody s_members_of) (defScope s_members_of) .none kV_members_of dc_members_of pm_members_of an_members_of cd_members_of ct_members_of), sl_members_of⟩)
    (c_members_of : PySem.W.codeIn K cd_members_of "members_of" = true) (k_members_of : PySem.W.keepIn K (.ref f_members_of) = true)
    {f_mask_of : Addr} {od_mask_of an_mask_of : Option Addr} {sl_mask_of : Array (Option Value)} {oc_mask_of kV_mask_of dc_mask_of pm_mask_of cd_mask_of ct_mask_of : Value}
    (a_mask_of : PySem.W.nsIn K mainGlobals "mask_of" = some (some (.ref f_mask_of)))
    (l_mask_of : K.lookup f_mask_of = some ⟨oc_mask_of, od_mask_of, .func (PySem.W.fnOf "mask_of" "mask_of" (defArgs s_mask_of) (defBody s_mask_of) (defScope s_mask_of) .none kV_mask_of dc_mask_of pm_mask_of an_mask_of cd_mask_of ct_mask_of), sl_mask_of⟩)
    (c_mask_of : PySem.W.codeIn K cd_mask_of "mask_of" = true) (k_mask_of : PySem.W.keepIn K (.ref f_mask_of) = true)
    {f_weight_of : Addr} {od_weight_of an_weight_of : Option Addr} {sl_weight_of : Array (Option Value)} {oc_weight_of kV_weight_of dc_weight_of pm_weight_of cd_weight_of ct_weight_of : Value}
    (a_weight_of : PySem.W.nsIn K mainGlobals "weight_of" = some (some (.ref f_weight_of)))
    (l_weight_of : K.lookup f_weight_of = some ⟨oc_weight_of, od_weight_of, .func (PySem.W.fnOf "weight_of" "weight_of" (defArgs s_weight_of) (defBody s_weight_of) (defScope s_weight_of) .none kV_weight_of dc_weight_of pm_weight_of an_weight_of cd_weight_of ct_weight_of), sl_weight_of⟩)
    (c_weight_of : PySem.W.codeIn K cd_weight_of "weight_of" = true) (k_weight_of : PySem.W.keepIn K (.ref f_weight_of) = true)
    {f_order_of : Addr} {od_order_of an_order_of : Option Addr} {sl_order_of : Array (Option Value)} {oc_order_of kV_order_of dc_order_of pm_order_of cd_order_of ct_order_of : Value}
    (a_order_of : PySem.W.nsIn K mainGlobals "order_of" = some (some (.ref f_order_of)))
    (l_order_of : K.lookup f_order_of = some ⟨oc_order_of, od_order_of, .func (PySem.W.fnOf "order_of" "order_of" (defArgs s_order_of) (defBody s_order_of) (defScope s_order_of) .none kV_order_of dc_order_of pm_order_of an_order_of cd_order_of ct_order_of), sl_order_of⟩)
    (c_order_of : PySem.W.codeIn K cd_order_of "order_of" = true) (k_order_of : PySem.W.keepIn K (.ref f_order_of) = true)
    {f_greedy_mask : Addr} {od_greedy_mask an_greedy_mask : Option Addr} {sl_greedy_mask : Array (Option Value)} {oc_greedy_mask kV_greedy_mask dc_greedy_mask pm_greedy_mask cd_greedy_mask ct_greedy_mask : Value}
    (a_greedy_mask : PySem.W.nsIn K mainGlobals "greedy_mask" = some (some (.ref f_greedy_mask)))
    (l_greedy_mask : K.lookup f_greedy_mask = some ⟨oc_greedy_mask, od_greedy_mask, .func (PySem.W.fnOf "greedy_mask" "greedy_mask" (defArgs s_greedy_mask) (defBody s_greedy_mask) (defScope s_greedy_mask) .none kV_greedy_mask dc_greedy_mask pm_greedy_mask an_greedy_mask cd_greedy_mask ct_greedy_mask), sl_greedy_mask⟩)
    (c_greedy_mask : PySem.W.codeIn K cd_greedy_mask "greedy_mask" = true) (k_greedy_mask : PySem.W.keepIn K (.ref f_greedy_mask) = true)
    {f_is_between : Addr} {od_is_between an_is_between : Option Addr} {sl_is_between : Array (Option Value)} {oc_is_between kV_is_between dc_is_between pm_is_between cd_is_between ct_is_between : Value}
    (a_is_between : PySem.W.nsIn K mainGlobals "is_between" = some (some (.ref f_is_between)))
    (l_is_between : K.lookup f_is_between = some ⟨oc_is_between, od_is_between, .func (PySem.W.fnOf "is_between" "is_between" (defArgs s_is_between) (defBody s_is_between) (defScope s_is_between) .none kV_is_between dc_is_between pm_is_between an_is_between cd_is_between ct_is_between), sl_is_between⟩)
    (c_is_between : PySem.W.codeIn K cd_is_between "is_between" = true) (k_is_between : PySem.W.keepIn K (.ref f_is_between) = true)
    {f_are_all_between : Addr} {od_are_all_between an_are_all_between : Option Addr} {sl_are_all_between : Array (Option Value)} {oc_are_all_between kV_are_all_between dc_are_all_between pm_are_all_between cd_are_all_between ct_are_all_between : Value}
    (a_are_all_between : PySem.W.nsIn K mainGlobals "are_all_between" = some (some (.ref f_are_all_between)))
    (l_are_all_between : K.lookup f_are_all_between = some ⟨oc_are_all_between, od_are_all_between, .func (PySem.W.fnOf "are_all_between" "are_all_between" (defArgs s_are_all_between) (defBody s_are_all_between) (defScope s_are_all_between) .none kV_are_all_between dc_are_all_between pm_are_all_between an_are_all_between cd_are_all_between ct_are_all_between), sl_are_all_between⟩)
    (c_are_all_between : PySem.W.codeIn K cd_are_all_between "are_all_between" = true) (k_are_all_between : PySem.W.keepIn K (.ref f_are_all_between) = true)
    {f_are_rising : Addr} {od_are_rising an_are_rising : Option Addr} {sl_are_rising : Array (Option Value)} {oc_are_rising kV_are_rising dc_are_rising pm_are_rising cd_are_rising ct_are_rising : Value}
    (a_are_rising : PySem.W.nsIn K mainGlobals "are_rising" = some (some (.ref f_are_rising)))
    (l_are_rising : K.lookup f_are_rising = some ⟨oc_are_rising, od_are_rising, .func (PySem.W.fnOf "are_rising" "are_rising" (defArgs s_are_rising) (defBody s_are_rising) (defScope s_are_rising) .none kV_are_rising dc_are_rising pm_are_rising an_are_rising cd_are_rising ct_are_rising), sl_are_rising⟩)
    (c_are_rising : PySem.W.codeIn K cd_are_rising "are_rising" = true) (k_are_rising : PySem.W.keepIn K (.ref f_are_rising) = true)
    {f_is_spacing : Addr} {od_is_spacing an_is_spacing : Option Addr} {sl_is_spacing : Array (Option Value)} {oc_is_spacing kV_is_spacing dc_is_spacing pm_is_spacing cd_is_spacing ct_is_spacing : Value}
    (a_is_spacing : PySem.W.nsIn K mainGlobals "is_spacing" = some (some (.ref f_is_spacing)))
    (l_is_spacing : K.lookup f_is_spacing = some ⟨oc_is_spacing, od_is_spacing, .func (PySem.W.fnOf "is_spacing" "is_spacing" (defArgs s_is_spacing) (defBody s_is_spacing) (defScope s_is_spacing) .none kV_is_spacing dc_is_spacing pm_is_spacing an_is_spacing cd_is_spacing ct_is_spacing), sl_is_spacing⟩)
    (c_is_spacing : PySem.W.codeIn K cd_is_spacing "is_spacing" = true) (k_is_spacing : PySem.W.keepIn K (.ref f_is_spacing) = true)
    {f_are_points : Addr} {od_are_points an_are_points : Option Addr} {sl_are_points : Array (Option Value)} {oc_are_points kV_are_points dc_are_points pm_are_points cd_are_points ct_are_points : Value}
    (a_are_points : PySem.W.nsIn K mainGlobals "are_points" = some (some (.ref f_are_points)))
    (l_are_points : K.lookup f_are_points = some ⟨oc_are_points, od_are_points, .func (PySem.W.fnOf "are_points" "are_points" (defArgs s_are_points) (defBody s_are_points) (defScope s_are_points) .none kV_are_points dc_are_points pm_are_points an_are_points cd_are_points ct_are_points), sl_are_points⟩)
    (c_are_points : PySem.W.codeIn K cd_are_points "are_points" = true) (k_are_points : PySem.W.keepIn K (.ref f_are_points) = true)
    {f_are_spaced_points : Addr} {od_are_spaced_points an_are_spaced_points : Option Addr} {sl_are_spaced_points : Array (Option Value)} {oc_are_spaced_points kV_are_spaced_points dc_are_spaced_points pm_are_spaced_points cd_are_spaced_points ct_are_spaced_points : Value}
    (a_are_spaced_points : PySem.W.nsIn K mainGlobals "are_spaced_points" = some (some (.ref f_are_spaced_points)))
    (l_are_spaced_points : K.lookup f_are_spaced_points = some ⟨oc_are_spaced_points, od_are_spaced_points, .func (PySem.W.fnOf "are_spaced_points" "are_spaced_points" (defArgs s_are_spaced_points) (defBody s_are_spaced_points) (defScope s_are_spaced_points) .none kV_are_spaced_points dc_are_spaced_points pm_are_spaced_points an_are_spaced_points cd_are_spaced_points ct_are_spaced_points), sl_are_spaced_points⟩)
    (c_are_spaced_points : PySem.W.codeIn K cd_are_spaced_points "are_spaced_points" = true) (k_are_spaced_points : PySem.W.keepIn K (.ref f_are_spaced_points) = true)
    {f_greedy_selection : Addr} {od_greedy_selection an_greedy_selection : Option Addr} {sl_greedy_selection : Array (Option Value)} {oc_greedy_selection kV_greedy_selection dc_greedy_selection pm_greedy_selection cd_greedy_selection ct_greedy_selection : Value}
    (a_greedy_selection : PySem.W.nsIn K mainGlobals "greedy_selection" = some (some (.ref f_greedy_selection)))
    (l_greedy_selection : K.lookup f_greedy_selection = some ⟨oc_greedy_selection, od_greedy_selection, .func (PySem.W.fnOf "greedy_selection" "greedy_selection" (defArgs s_greedy_selection) (defBody s_greedy_selection) (defScope s_greedy_selection) .none kV_greedy_selection dc_greedy_selection pm_greedy_selection an_greedy_selection cd_greedy_selection ct_greedy_selection), sl_greedy_selection⟩)
    (c_greedy_selection : PySem.W.codeIn K cd_greedy_selection "greedy_selection" = true) (k_greedy_selection : PySem.W.keepIn K (.ref f_greedy_selection) = true)
    {t_MOST_SPACING : Tok} (n_MOST_SPACING : PySem.W.nsIn K mainGlobals "MOST_SPACING" = some (some (.int (999) t_MOST_SPACING)))
    {t_MOST_POINTS : Tok} (n_MOST_POINTS : PySem.W.nsIn K mainGlobals "MOST_POINTS" = some (some (.int (12) t_MOST_POINTS)))
    {t_MOST_POSITION : Tok} (n_MOST_POSITION : PySem.W.nsIn K mainGlobals "MOST_POSITION" = some (some (.int (999) t_MOST_POSITION)))
    {t_MOST_WEIGHT : Tok} (n_MOST_WEIGHT : PySem.W.nsIn K mainGlobals "MOST_WEIGHT" = some (some (.int (99) t_MOST_WEIGHT)))
    {t_OUTSIDE : Tok} (n_OUTSIDE : PySem.W.nsIn K mainGlobals "OUTSIDE" = some (some (.int (-22) t_OUTSIDE)))
    (z_len : PySem.W.nsIn K mainGlobals "len" = some none)
    (z_abs : PySem.W.nsIn K mainGlobals "abs" = some none)
    (z_range : PySem.W.nsIn K mainGlobals "range" = some none)
    (z_sum : PySem.W.nsIn K mainGlobals "sum" = some none)
    (z_sorted : PySem.W.nsIn K mainGlobals "sorted" = some none)
    : ∃ fd : FuncData, (∀ (s : Shared) (us : List Value), us.length = (["spacing", "points"] : List Str).length → BindsTo s fd ⟨us, []⟩ ((["spacing", "points"] : List Str).zip us)) ∧ ∀ base : Heap, K.In base → base.Ns mainGlobals mg → FnOk P w K mg base CX0 6 fa fd ["spacing", "points"] (spAns K) := by
  have same := hfa.symm.trans (PySem.W.mg_of X G a_greedy_selection)
  cases same
  refine ⟨PySem.W.fnOf "greedy_selection" "greedy_selection" (defArgs s_greedy_selection) (defBody s_greedy_selection) (defScope s_greedy_selection) .none kV_greedy_selection dc_greedy_selection pm_greedy_selection an_greedy_selection cd_greedy_selection ct_greedy_selection, fun s us hu => match us, hu with | [_, _], _ => .of_eq rfl, fun base _ _ => ?_⟩
  have D_is_between : Def P w K mg base 1 "is_between" ["number", "low", "high"] (spBetween K) := ok_is_between (fun_mk (st := s_is_between) l_is_between c_is_between k_is_between) (PySem.W.mg_of X G a_is_between)
  have D_is_spacing : Def P w K mg base 2 "is_spacing" ["spacing"] (spIsSp K) := ok_is_spacing (fun_mk (st := s_is_spacing) l_is_spacing c_is_spacing k_is_spacing) (PySem.W.mg_of X G a_is_spacing) (PySem.W.mg_of X G n_MOST_SPACING) D_is_between
  have D_count_of : Def P w K mg base 1 "count_of" ["points"] (spCnt K) := ok_count_of (fun_mk (st := s_count_of) l_count_of c_count_of k_count_of) (PySem.W.mg_of X G a_count_of) (PySem.W.mg_none_of X G z_len)
  have D_positions_of : Def P w K mg base 1 "positions_of" ["points"] (spPos K) := ok_positions_of (fun_mk (st := s_positions_of) l_positions_of c_positions_of k_positions_of) (PySem.W.mg_of X G a_positions_of)
  have D_are_all_between : Def P w K mg base 2 "are_all_between" ["numbers", "low", "high"] (spAllB K) := ok_are_all_between (fun_mk (st := s_are_all_between) l_are_all_between c_are_all_between k_are_all_between) (PySem.W.mg_of X G a_are_all_between) D_is_between
  have D_are_rising : Def P w K mg base 1 "are_rising" ["numbers"] (spRising K) := ok_are_rising (fun_mk (st := s_are_rising) l_are_rising c_are_rising k_are_rising) (PySem.W.mg_of X G a_are_rising) (PySem.W.mg_none_of X G z_range) (PySem.W.mg_none_of X G z_len)
  have D_weights_of : Def P w K mg base 1 "weights_of" ["points"] (spWts K) := ok_weights_of (fun_mk (st := s_weights_of) l_weights_of c_weights_of k_weights_of) (PySem.W.mg_of X G a_weights_of)
  have D_are_points : Def P w K mg base 3 "are_points" ["points"] (spArePts K) := ok_are_points (fun_mk (st := s_are_points) l_are_points c_are_points k_are_points) (PySem.W.mg_of X G a_are_points) (PySem.W.mg_none_of X G z_len) (PySem.W.mg_of X G n_MOST_POINTS) (PySem.W.mg_of X G n_MOST_POSITION) (PySem.W.mg_of X G n_MOST_WEIGHT) D_count_of D_positions_of D_are_all_between D_are_rising D_weights_of
  have D_are_spaced_points : Def P w K mg base 4 "are_spaced_points" ["spacing", "points"] (spSpaced K) := ok_are_spaced_points (fun_mk (st := s_are_spaced_points) l_are_spaced_points c_are_spaced_points k_are_spaced_points) (PySem.W.mg_of X G a_are_spaced_points) D_is_spacing D_are_points
  have D_order_of : Def P w K mg base 1 "order_of" ["weights"] (spOrder K) := ok_order_of (fun_mk (st := s_order_of) l_order_of c_order_of k_order_of) (PySem.W.mg_of X G a_order_of) (PySem.W.mg_none_of X G z_sorted) (PySem.W.mg_none_of X G z_range) (PySem.W.mg_none_of X G z_len)
  have D_are_in_conflict : Def P w K mg base 1 "are_in_conflict" ["spacing", "positions", "one", "other"] (spConf K) := ok_are_in_conflict (fun_mk (st := s_are_in_conflict) l_are_in_conflict c_are_in_conflict k_are_in_conflict) (PySem.W.mg_of X G a_are_in_conflict) (PySem.W.mg_none_of X G z_abs)
  have D_fits : Def P w K mg base 2 "fits" ["spacing", "positions", "point", "taken"] (spFits K) := ok_fits (fun_mk (st := s_fits) l_fits c_fits k_fits) (PySem.W.mg_of X G a_fits) D_are_in_conflict
  have D_mask_of : Def P w K mg base 1 "mask_of" ["members"] (spMaskOf K) := ok_mask_of (fun_mk (st := s_mask_of) l_mask_of c_mask_of k_mask_of) (PySem.W.mg_of X G a_mask_of) (PySem.W.mg_none_of X G z_sum)
  have D_greedy_mask : Def P w K mg base 3 "greedy_mask" ["spacing", "points"] (spGreedy K) := ok_greedy_mask (fun_mk (st := s_greedy_mask) l_greedy_mask c_greedy_mask k_greedy_mask) (PySem.W.mg_of X G a_greedy_mask) D_positions_of D_weights_of D_order_of D_fits D_mask_of
  have D_members_of : Def P w K mg base 1 "members_of" ["mask", "many"] (spMembers K) := ok_members_of (fun_mk (st := s_members_of) l_members_of c_members_of k_members_of) (PySem.W.mg_of X G a_members_of) (PySem.W.mg_none_of X G z_range)
  have D_weight_of : Def P w K mg base 2 "weight_of" ["weights", "mask"] (spWeight K) := ok_weight_of (fun_mk (st := s_weight_of) l_weight_of c_weight_of k_weight_of) (PySem.W.mg_of X G a_weight_of) (PySem.W.mg_none_of X G z_sum) (PySem.W.mg_none_of X G z_len) D_members_of
  exact ok_greedy_selection (fun_mk (st := s_greedy_selection) l_greedy_selection c_greedy_selection k_greedy_selection) (PySem.W.mg_of X G a_greedy_selection) (PySem.W.mg_of X G n_OUTSIDE) D_are_spaced_points D_greedy_mask D_weight_of D_weights_of
end Sx
open PySem PySem.W PyProof.Rows
set_option maxRecDepth 100000 in
set_option maxHeartbeats 0 in
theorem PySem.Challenge.cw_spreadpicks_s05_greedy_selection_holds : PySem.Challenge.rw_spreadpicks_s05_greedy_selection.Holds := by
  w_on; k_headS; (case hw => exact ⟨[.int 1, .list []], by decide +kernel, by decide +kernel⟩)
  k_fillS
  refine L2.walk_specK (r := PySem.Challenge.rw_spreadpicks_s05_greedy_selection) (k := 6) (CX := L2.CX0) (ps := ["spacing", "points"]) (sp := Sx.spAns) (by decide +kernel) rfl rfl ⟨rfl, by decide, by decide⟩ (fun w h Y => PySem.W.kIn_of Y) ?F ?S (fun _ _ _ _ z => z)
  case F =>
    intro w mg fa h Y KX G hmg
    refine' Sx.all_mk KX G hmg ?a_positions_of ?l_positions_of ?c_positions_of ?k_positions_of ?a_weights_of ?l_weights_of ?c_weights_of ?k_weights_of ?a_count_of ?l_count_of ?c_count_of ?k_count_of ?a_are_in_conflict ?l_are_in_conflict ?c_are_in_conflict ?k_are_in_conflict ?a_fits ?l_fits ?c_fits ?k_fits ?a_members_of ?l_members_of ?c_members_of ?k_members_of ?a_mask_of ?l_mask_of ?c_mask_of ?k_mask_of ?a_weight_of ?l_weight_of ?c_weight_of ?k_weight_of ?a_order_of ?l_order_of ?c_order_of ?k_order_of ?a_greedy_mask ?l_greedy_mask ?c_greedy_mask ?k_greedy_mask ?a_is_between ?l_is_between ?c_is_between ?k_is_between ?a_are_all_between ?l_are_all_between ?c_are_all_between ?k_are_all_between ?a_are_rising ?l_are_rising ?c_are_rising ?k_are_rising ?a_is_spacing ?l_is_spacing ?c_is_spacing ?k_is_spacing ?a_are_points ?l_are_points ?c_are_points ?k_are_points ?a_are_spaced_points ?l_are_spaced_points ?c_are_spaced_points ?k_are_spaced_points ?a_greedy_selection ?l_greedy_selection ?c_greedy_selection ?k_greedy_selection ?n_MOST_SPACING ?n_MOST_POINTS ?n_MOST_POSITION ?n_MOST_WEIGHT ?n_OUTSIDE ?z_len ?z_abs ?z_range ?z_sum ?z_sorted
    (case a_positions_of => k_is)
    (case l_positions_of => k_is)
    (case c_positions_of => k_is)
    (case k_positions_of => k_is)
    (case a_weights_of => k_is)
    (case l_weights_of => k_is)
    (case c_weights_of => k_is)
    (case k_weights_of => k_is)
    (case a_count_of => k_is)
    (case l_count_of => k_is)
    (case c_count_of => k_is)
    (case k_count_of => k_is)
    (case a_are_in_conflict => k_is)
    (case l_are_in_conflict => k_is)
    (case c_are_in_conflict => k_is)
    (case k_are_in_conflict => k_is)
    (case a_fits => k_is)
    (case l_fits => k_is)
    (case c_fits => k_is)
    (case k_fits => k_is)
    (case a_members_of => k_is)
    (case l_members_of => k_is)
    (case c_members_of => k_is)
    (case k_members_of => k_is)
    (case a_mask_of => k_is)
    (case l_mask_of => k_is)
    (case c_mask_of => k_is)
    (case k_mask_of => k_is)
    (case a_weight_of => k_is)
    (case l_weight_of => k_is)
    (case c_weight_of => k_is)
    (case k_weight_of => k_is)
    (case a_order_of => k_is)
    (case l_order_of => k_is)
    (case c_order_of => k_is)
    (case k_order_of => k_is)
    (case a_greedy_mask => k_is)
    (case l_greedy_mask => k_is)
    (case c_greedy_mask => k_is)
    (case k_greedy_mask => k_is)
    (case a_is_between => k_is)
    (case l_is_between => k_is)
    (case c_is_between => k_is)
    (case k_is_between => k_is)
    (case a_are_all_between => k_is)
    (case l_are_all_between => k_is)
    (case c_are_all_between => k_is)
    (case k_are_all_between => k_is)
    (case a_are_rising => k_is)
    (case l_are_rising => k_is)
    (case c_are_rising => k_is)
    (case k_are_rising => k_is)
    (case a_is_spacing => k_is)
    (case l_is_spacing => k_is)
    (case c_is_spacing => k_is)
    (case k_is_spacing => k_is)
    (case a_are_points => k_is)
    (case l_are_points => k_is)
    (case c_are_points => k_is)
    (case k_are_points => k_is)
    (case a_are_spaced_points => k_is)
    (case l_are_spaced_points => k_is)
    (case c_are_spaced_points => k_is)
    (case k_are_spaced_points => k_is)
    (case a_greedy_selection => k_is)
    (case l_greedy_selection => k_is)
    (case c_greedy_selection => k_is)
    (case k_greedy_selection => k_is)
    (case n_MOST_SPACING => k_is)
    (case n_MOST_POINTS => k_is)
    (case n_MOST_POSITION => k_is)
    (case n_MOST_WEIGHT => k_is)
    (case n_OUTSIDE => k_is)
    (case z_len => k_is)
    (case z_abs => k_is)
    (case z_range => k_is)
    (case z_sum => k_is)
    (case z_sorted => k_is)
  case S =>
    intro K H xs a hO hwi hask hx
    obtain ⟨sp, ns, u⟩ := a
    cases hx with
    | cons h1 hx =>
      cases hx with
      | cons h2 hx =>
        cases hx
        cases h1
        cases h2 with
        | lst hs ha =>
          have e := L2.ints_dw ns _ ha
          subst e
          have q : (Codec.inInt (Int.ofNat 0) (Int.ofNat 4294967295) sp && ((Codec.inLen 0 27 ns && ns.all (Codec.inInt (Int.ofNat 0) (Int.ofNat 4294967295))) && true)) = true := hwi
          rw [Bool.and_eq_true, Bool.and_true] at q
          obtain ⟨q1, q2⟩ := q
          have q3 := Sx.inL q2
          have z := Sx.law_greedy (Sx.inI q1) q3.2
          refine ⟨sp, _, ns, rfl, hs, q3.1, fun H' p hp => ?_⟩
          rw [← z] at hp
          exact .lst (L2.SqL.of hp) (L2.dw_ints _)
#print axioms PySem.Challenge.cw_spreadpicks_s05_greedy_selection_holds
