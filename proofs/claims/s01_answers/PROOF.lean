import PyProof.Rows.All
import Wide.All
import OpenK.AllK
import Wide.FinOn
import Open.SpecLaws
import KE.OsHead
import KE.OsGo
import HandS.ForSpec
import HandS.Comp
import PySem.Challenge.RW_rolesdoubled_s01_answers
set_option Elab.async false
set_option maxRecDepth 100000
set_option maxHeartbeats 4000000
/-! The plain law of Roles doubled: what the program computes is what the specification says. No program in sight. -/
namespace RD
open Uw02

/-! ### small words about lists -/
theorem total_from : ∀ (l : List Nat) (a : Nat), l.foldl (fun a b => a + b) a = a + total l
  | [], a => by simp [total]
  | x :: r, a => by
    have h1 := total_from r (a + x)
    have h2 := total_from r (0 + x)
    unfold total
    rw [List.foldl_cons, List.foldl_cons, h1, h2]
    omega
theorem total_nil : total [] = 0 := rfl
theorem total_cons (x : Nat) (r : List Nat) : total (x :: r) = x + total r := by
  have h := total_from r (0 + x)
  unfold total
  rw [List.foldl_cons, h]
  unfold total
  omega
theorem total_append : ∀ (l r : List Nat), total (l ++ r) = total l + total r
  | [], r => by simp [total_nil]
  | x :: l, r => by rw [List.cons_append, total_cons, total_cons, total_append l r]; omega
theorem total_snoc (l : List Nat) (x : Nat) : total (l ++ [x]) = total l + x := by
  rw [total_append, total_cons, total_nil]; omega
theorem take_more {α : Type} : ∀ {l : List α} {i : Nat} {x : α}, l[i]? = some x → l.take (i + 1) = l.take i ++ [x]
  | [], i, x, h => by simp at h
  | a :: l, 0, x, h => by
    have e : a = x := Option.some.inj h
    subst e
    rfl
  | a :: l, i + 1, x, h => by
    have ih := take_more (l := l) (i := i) (x := x) h
    show a :: l.take (i + 1) = a :: l.take i ++ [x]
    rw [ih]
    rfl
theorem range_filter_more (P : Nat → Bool) (i : Nat) : (List.range (i + 1)).filter P = (List.range i).filter P ++ (if P i = true then [i] else []) := by
  rw [List.range_succ, List.filter_append]
  congr 1
  cases h : P i <;> simp [h]

/-! ### clashes -/
def clashAt (p : Play) (r s i j : Nat) : Bool := i == j || (if i < j then decide (p.between i j < p.dress.getD s 0) else decide (p.between j i < p.dress.getD r 0))
theorem between_eq (p : Play) (i j : Nat) : p.between i j = total (((p.scenes.map fun s => s.long).drop (i + 1)).take (j - (i + 1))) := by
  unfold Play.between
  rw [← List.drop_take, List.map_drop, List.map_take]
def clashL (p : Play) (r s : Nat) : List Nat := match p.clash r s with
  | none => []
  | some (i, j) => [i, j]
theorem find_none {α β : Type} {P : α × β → Bool} {W : List α} {V : List β} (h : ∀ x ∈ W, ∀ y ∈ V, P (x, y) = false) : (W.flatMap fun i => V.map fun j => (i, j)).find? P = none := by
  rw [List.find?_eq_none]
  intro z hz
  rw [List.mem_flatMap] at hz
  obtain ⟨x, hx, hz⟩ := hz
  rw [List.mem_map] at hz
  obtain ⟨y, hy, rfl⟩ := hz
  rw [h x hx y hy]
  simp
theorem find_hit {α β : Type} {P : α × β → Bool} : ∀ {W : List α} {V : List β} {i j : Nat} {x : α} {y : β}, W[i]? = some x → V[j]? = some y → (∀ a ∈ W.take i, ∀ b ∈ V, P (a, b) = false) → (∀ b ∈ V.take j, P (x, b) = false) → P (x, y) = true →
    (W.flatMap fun i => V.map fun j => (i, j)).find? P = some (x, y) := by
  intro W V i j x y hx hy h1 h2 h3
  have row : ∀ {V : List β} {j : Nat}, V[j]? = some y → (∀ b ∈ V.take j, P (x, b) = false) → (V.map fun j => (x, j)).find? P = some (x, y) := by
    intro V
    induction V with
    | nil => intro j hy _; simp at hy
    | cons b V ih =>
      intro j hy h2
      cases j with
      | zero =>
        have e : b = y := Option.some.inj hy
        subst e
        rw [List.map_cons, List.find?_cons_of_pos h3]
      | succ j =>
        have hb : P (x, b) = false := h2 b (by simp)
        rw [List.map_cons, List.find?_cons_of_neg (by rw [hb]; simp)]
        exact ih (j := j) hy fun c hc => h2 c (by rw [List.take_succ_cons]; exact List.mem_cons_of_mem _ hc)
  induction W generalizing i with
  | nil => simp at hx
  | cons a W ih =>
    cases i with
    | zero =>
      have e : a = x := Option.some.inj hx
      subst e
      rw [List.flatMap_cons, List.find?_append, row hy h2]
      rfl
    | succ i =>
      have ha : (V.map fun j => (a, j)).find? P = none := by
        rw [List.find?_eq_none]
        intro z hz
        rw [List.mem_map] at hz
        obtain ⟨b, hb, rfl⟩ := hz
        rw [h1 a (by simp) b hb]
        simp
      rw [List.flatMap_cons, List.find?_append, ha]
      show List.find? P _ = _
      exact ih (i := i) hx fun c hc b hb => h1 c (by rw [List.take_succ_cons]; exact List.mem_cons_of_mem _ hc) b hb
theorem clash_none {p : Play} {r s : Nat} (h : ∀ i ∈ p.where_ r, ∀ j ∈ p.where_ s, clashAt p r s i j = false) : clashL p r s = [] := by
  have e : p.clash r s = none := find_none h
  unfold clashL
  rw [e]
theorem clash_hit {p : Play} {r s a b i j : Nat} (ha : (p.where_ r)[a]? = some i) (hb : (p.where_ s)[b]? = some j) (h1 : ∀ x ∈ (p.where_ r).take a, ∀ y ∈ p.where_ s, clashAt p r s x y = false)
    (h2 : ∀ y ∈ (p.where_ s).take b, clashAt p r s i y = false) (h3 : clashAt p r s i j = true) : clashL p r s = [i, j] := by
  have e : p.clash r s = some (i, j) := find_hit ha hb h1 h2 h3
  unfold clashL
  rw [e]
theorem where_lt {p : Play} {r i : Nat} (h : i ∈ p.where_ r) : i < p.scenes.length := by
  have := (List.mem_filter.mp h).1
  exact List.mem_range.mp this
theorem clashL_len (p : Play) (r s : Nat) : (clashL p r s).length ≤ 2 := by
  unfold clashL
  cases p.clash r s with
  | none => simp
  | some x => obtain ⟨i, j⟩ := x; simp
/-- the row of a pair, if it clashes -/
def rowOf (p : Play) (a b : Nat) : List (List Nat) := if (clashL p a b).length > 0 then [[a, b] ++ clashL p a b] else []
/-- the rows of the pairs (a, a + 1 + k), k below m -/
def inner (p : Play) (a m : Nat) : List (List Nat) := (List.range m).flatMap fun k => rowOf p a (a + 1 + k)
/-- the rows of the pairs whose lower role is below i; n roles -/
def upto (p : Play) (n i : Nat) : List (List Nat) := (List.range i).flatMap fun a => inner p a (n - (a + 1))
theorem inner_more (p : Play) (a m : Nat) : inner p a (m + 1) = inner p a m ++ rowOf p a (a + 1 + m) := by
  unfold inner
  rw [List.range_succ, List.flatMap_append]
  simp
theorem upto_more (p : Play) (n i : Nat) : upto p n (i + 1) = upto p n i ++ inner p i (n - (i + 1)) := by
  unfold upto
  rw [List.range_succ, List.flatMap_append]
  simp
theorem rowOf_len (p : Play) (a b : Nat) : (rowOf p a b).length ≤ 1 := by
  unfold rowOf
  split <;> simp
theorem inner_len (p : Play) (a : Nat) : ∀ m, (inner p a m).length ≤ m
  | 0 => by simp [inner]
  | m + 1 => by
    rw [inner_more, List.length_append]
    have := inner_len p a m
    have := rowOf_len p a (a + 1 + m)
    omega
theorem upto_len (p : Play) (n : Nat) : ∀ i, (upto p n i).length ≤ i * n
  | 0 => by simp [upto]
  | i + 1 => by
    rw [upto_more, List.length_append]
    have h1 := upto_len p n i
    have h2 := inner_len p i (n - (i + 1))
    have e : (i + 1) * n = i * n + n := Nat.succ_mul i n
    omega
def cpairs (p : Play) : List (List Nat) := (pairs p.dress.length).filterMap fun x => (p.clash x.1 x.2).map fun y => [x.1, x.2, y.1, y.2]
theorem rowOf_eq (p : Play) (a b : Nat) : rowOf p a b = ((p.clash a b).map fun y => [a, b, y.1, y.2]).toList := by
  unfold rowOf clashL
  cases p.clash a b with
  | none => simp
  | some x => obtain ⟨i, j⟩ := x; simp
theorem range_above (n a : Nat) : (List.range n).filter (fun b => decide (a < b)) = (List.range (n - (a + 1))).map fun k => a + 1 + k := by
  induction n with
  | zero => simp
  | succ n ih =>
    rw [List.range_succ, List.filter_append, ih]
    by_cases h : a < n
    · have e : n + 1 - (a + 1) = (n - (a + 1)) + 1 := by omega
      rw [e, List.range_succ, List.map_append]
      congr 1
      simp [h]
      omega
    · have e : n + 1 - (a + 1) = 0 := by omega
      have e2 : n - (a + 1) = 0 := by omega
      rw [e, e2]
      simp [h]
theorem filterMap_flat {α β : Type} (f : α → Option β) : ∀ l : List α, l.filterMap f = l.flatMap fun x => (f x).toList
  | [] => rfl
  | x :: l => by
    rw [List.filterMap_cons, List.flatMap_cons, filterMap_flat f l]
    cases f x <;> rfl
theorem upto_all (p : Play) : upto p p.dress.length p.dress.length = cpairs p := by
  unfold upto cpairs pairs inner
  rw [filterMap_flat, List.flatMap_assoc]
  congr 1
  funext a
  rw [range_above, List.map_map, List.flatMap_map]
  congr 1
  funext k
  exact rowOf_eq p a (a + 1 + k)
/-- each row of the clashing pairs -/
theorem cpairs_mem {p : Play} {x : List Nat} (h : x ∈ cpairs p) : ∃ a b i j, x = [a, b, i, j] ∧ a < b ∧ b < p.dress.length ∧ p.clash a b = some (i, j) := by
  unfold cpairs at h
  rw [List.mem_filterMap] at h
  obtain ⟨⟨a, b⟩, hp, h⟩ := h
  rw [Option.map_eq_some_iff] at h
  obtain ⟨⟨i, j⟩, hc, rfl⟩ := h
  unfold pairs at hp
  rw [List.mem_flatMap] at hp
  obtain ⟨a', ha', hp⟩ := hp
  rw [List.mem_map] at hp
  obtain ⟨b', hb', e⟩ := hp
  obtain ⟨rfl, rfl⟩ := Prod.mk.inj e
  obtain ⟨h1, h2⟩ := List.mem_filter.mp hb'
  exact ⟨_, _, i, j, rfl, of_decide_eq_true h2, List.mem_range.mp h1, hc⟩
theorem cpairs_has {p : Play} {a b : Nat} (h : a < b) (hb : b < p.dress.length) {x : Nat × Nat} (hc : p.clash a b = some x) : [a, b, x.1, x.2] ∈ cpairs p := by
  unfold cpairs
  rw [List.mem_filterMap]
  refine ⟨(a, b), ?_, by rw [hc]; rfl⟩
  unfold pairs
  rw [List.mem_flatMap]
  refine ⟨a, List.mem_range.mpr (by omega), ?_⟩
  rw [List.mem_map]
  exact ⟨b, List.mem_filter.mpr ⟨List.mem_range.mpr hb, decide_eq_true h⟩, rfl⟩
theorem cpairs_len {p : Play} (h : p.dress.length ≤ 6) : (cpairs p).length ≤ 36 := by
  rw [← upto_all]
  have h1 := upto_len p p.dress.length p.dress.length
  have h2 : p.dress.length * p.dress.length ≤ 6 * 6 := Nat.mul_le_mul h h
  omega

/-! ### the lower foes -/
/-- the lower roles of the pairs whose higher role is r -/
def foeOf (cp : List (List Nat)) (r : Nat) : List Nat := (cp.filter fun x => x.getD 1 0 == r).map fun x => x.getD 0 0
def foesOf (n : Nat) (cp : List (List Nat)) : List (List Nat) := (List.range n).map (foeOf cp)
def foes (p : Play) : List (List Nat) := foesOf p.dress.length (cpairs p)
theorem foesOf_len (n : Nat) (cp : List (List Nat)) : (foesOf n cp).length = n := by simp [foesOf]
theorem foesOf_get {n : Nat} {cp : List (List Nat)} {r : Nat} (h : r < n) : (foesOf n cp)[r]? = some (foeOf cp r) := by
  unfold foesOf
  rw [List.getElem?_map, List.getElem?_range h]
  rfl
theorem foeOf_more (cp : List (List Nat)) (x : List Nat) (r : Nat) : foeOf (cp ++ [x]) r = foeOf cp r ++ (if x.getD 1 0 = r then [x.getD 0 0] else []) := by
  unfold foeOf
  rw [List.filter_append, List.map_append]
  congr 1
  by_cases h : x.getD 1 0 = r
  · rw [if_pos h, List.filter_cons, if_pos (by rw [h]; simp)]
    rfl
  · rw [if_neg h, List.filter_cons, if_neg (by simpa using h)]
    rfl
theorem foesOf_more {n : Nat} {cp : List (List Nat)} {x : List Nat} {b : Nat} (hb : x.getD 1 0 = b) (hn : b < n) : foesOf n (cp ++ [x]) = (foesOf n cp).set b (foeOf cp b ++ [x.getD 0 0]) := by
  apply List.ext_getElem?
  intro r
  by_cases hr : r < n
  · rw [foesOf_get hr, foeOf_more]
    by_cases e : b = r
    · subst e
      rw [List.getElem?_set_self (by rw [foesOf_len]; exact hn), if_pos hb]
    · rw [List.getElem?_set_ne e, foesOf_get hr, if_neg (by rw [hb]; exact e), List.append_nil]
  · rw [List.getElem?_eq_none (by rw [foesOf_len]; omega), List.getElem?_eq_none (by rw [List.length_set, foesOf_len]; omega)]
theorem foe_mem {p : Play} {l r : Nat} (hr : r < p.dress.length) : l ∈ foeOf (cpairs p) r ↔ l < r ∧ (p.clash l r).isSome = true := by
  unfold foeOf
  rw [List.mem_map]
  constructor
  · rintro ⟨x, hx, rfl⟩
    obtain ⟨hx, e⟩ := List.mem_filter.mp hx
    obtain ⟨a, b, i, j, rfl, h1, h2, h3⟩ := cpairs_mem hx
    have e : b = r := by simpa using e
    subst e
    exact ⟨h1, by show (p.clash a b).isSome = true; rw [h3]; rfl⟩
  · rintro ⟨h1, h2⟩
    obtain ⟨x, hx⟩ := Option.isSome_iff_exists.mp h2
    exact ⟨_, List.mem_filter.mpr ⟨cpairs_has h1 hr hx, by simp⟩, rfl⟩
theorem foe_len {p : Play} (h : p.dress.length ≤ 6) (r i : Nat) : (foeOf ((cpairs p).take i) r).length ≤ 36 := by
  unfold foeOf
  rw [List.length_map]
  have h1 := List.length_filter_le (fun x : List Nat => x.getD 1 0 == r) ((cpairs p).take i)
  have h2 : ((cpairs p).take i).length ≤ (cpairs p).length := by rw [List.length_take]; exact Nat.min_le_right _ _
  have h3 := cpairs_len h
  omega
end RD
namespace RD
open Uw02

/-! ### which castings are right -/
def canPlay (p : Play) (a r : Nat) : Bool := (p.fee r a).isSome
def fits (F : List (List Nat)) (c : List Nat) (r a : Nat) : Bool := (F.getD r []).all fun l => !(c.getD l 0 == a)
def oneMore (p : Play) (F : List (List Nat)) (cs : List Cast) (r : Nat) : List Cast := cs.flatMap fun c => ((List.range p.players.length).filter fun a => canPlay p a r && fits F c r a).map fun a => c ++ [a]
def rc (p : Play) (F : List (List Nat)) : Nat → List Cast
  | 0 => [[]]
  | k + 1 => oneMore p F (rc p F k) k
/-- rows, the last role first -/
theorem rows_snoc (n : Nat) : ∀ k, rows n (k + 1) = (rows n k).flatMap fun c => (List.range n).map fun a => c ++ [a]
  | 0 => by
    show ((List.range n).flatMap fun a => ([[]] : List Cast).map fun r => a :: r) = _
    show _ = ([[]] : List Cast).flatMap fun c => (List.range n).map fun a => c ++ [a]
    simp only [List.map_cons, List.map_nil, List.flatMap_cons, List.flatMap_nil, List.append_nil, List.nil_append]
    induction List.range n with
    | nil => rfl
    | cons x l ih => rw [List.flatMap_cons, ih]; rfl
  | k + 1 => by
    have ih := rows_snoc n k
    have e : rows n (k + 1 + 1) = (List.range n).flatMap fun a => ((rows n k).flatMap fun c => (List.range n).map fun b => c ++ [b]).map fun r => a :: r := by
      rw [← ih]
      rfl
    rw [e]
    show _ = ((List.range n).flatMap fun a => (rows n k).map fun r => a :: r).flatMap fun c => (List.range n).map fun b => c ++ [b]
    rw [List.flatMap_assoc]
    congr 1
    funext a
    rw [List.map_flatMap, List.flatMap_map]
    congr 1
    funext c
    rw [List.map_map]
    rfl
theorem rows_len {n : Nat} : ∀ {k : Nat} {c : Cast}, c ∈ rows n k → c.length = k
  | 0, c, h => by
    have e : c = [] := by simpa [rows] using h
    subst e
    rfl
  | k + 1, c, h => by
    have h : c ∈ (List.range n).flatMap fun a => (rows n k).map fun r => a :: r := h
    rw [List.mem_flatMap] at h
    obtain ⟨a, _, h⟩ := h
    rw [List.mem_map] at h
    obtain ⟨r, hr, rfl⟩ := h
    rw [List.length_cons, rows_len hr]
theorem rows_lt {n : Nat} : ∀ {k : Nat} {c : Cast}, c ∈ rows n k → ∀ a ∈ c, a < n
  | 0, c, h => by
    have e : c = [] := by simpa [rows] using h
    subst e
    simp
  | k + 1, c, h => by
    have h : c ∈ (List.range n).flatMap fun a => (rows n k).map fun r => a :: r := h
    rw [List.mem_flatMap] at h
    obtain ⟨a, ha, h⟩ := h
    rw [List.mem_map] at h
    obtain ⟨r, hr, rfl⟩ := h
    intro b hb
    rcases List.mem_cons.mp hb with e | m
    · rw [e]; exact List.mem_range.mp ha
    · exact rows_lt hr b m
/-- the roles below k have players that can, and none that clash -/
def okay (p : Play) (F : List (List Nat)) : Nat → Cast → Bool
  | 0, _ => true
  | k + 1, c => okay p F k c && (canPlay p (c.getD k 0) k && fits F c k (c.getD k 0))
theorem getD_app {c : List Nat} {i : Nat} (a : Nat) (h : i < c.length) : (c ++ [a]).getD i 0 = c.getD i 0 := by
  rw [List.getD_eq_getElem?_getD, List.getD_eq_getElem?_getD, List.getElem?_append_left h]
theorem getD_last {c : List Nat} (a : Nat) : (c ++ [a]).getD c.length 0 = a := by
  rw [List.getD_eq_getElem?_getD, List.getElem?_concat_length]
  rfl
theorem fits_app {F : List (List Nat)} {c : List Nat} {r : Nat} (a x : Nat) (h : ∀ l ∈ F.getD r [], l < c.length) : fits F (c ++ [a]) r x = fits F c r x := by
  unfold fits
  rw [Bool.eq_iff_iff, List.all_eq_true, List.all_eq_true]
  constructor
  · intro g l hl
    have := g l hl
    rwa [getD_app a (h l hl)] at this
  · intro g l hl
    have := g l hl
    rwa [getD_app a (h l hl)]
theorem okay_app {p : Play} {F : List (List Nat)} (hF : ∀ r, ∀ l ∈ F.getD r [], l < r) : ∀ (k : Nat) (c : List Nat) (a : Nat), k ≤ c.length → okay p F k (c ++ [a]) = okay p F k c
  | 0, _, _, _ => rfl
  | k + 1, c, a, h => by
    show (okay p F k (c ++ [a]) && (canPlay p ((c ++ [a]).getD k 0) k && fits F (c ++ [a]) k ((c ++ [a]).getD k 0))) = (okay p F k c && (canPlay p (c.getD k 0) k && fits F c k (c.getD k 0)))
    rw [okay_app hF k c a (by omega), getD_app a (by omega), fits_app a _ fun l hl => by have := hF k l hl; omega]
theorem filter_flat {α β : Type} (P : β → Bool) (f : α → List β) : ∀ l : List α, (l.flatMap f).filter P = l.flatMap fun x => (f x).filter P
  | [] => rfl
  | x :: l => by rw [List.flatMap_cons, List.flatMap_cons, List.filter_append, filter_flat P f l]
theorem flat_filter {α β : Type} (P : α → Bool) (f : α → List β) : ∀ l : List α, (l.filter P).flatMap f = l.flatMap fun x => if P x = true then f x else []
  | [] => rfl
  | x :: l => by
    rw [List.filter_cons, List.flatMap_cons, ← flat_filter P f l]
    cases h : P x with
    | true => rw [if_pos rfl, if_pos rfl, List.flatMap_cons]
    | false => rw [if_neg Bool.false_ne_true, if_neg Bool.false_ne_true, List.nil_append]
theorem flat_congr {α β : Type} {f g : α → List β} : ∀ {l : List α}, (∀ x ∈ l, f x = g x) → l.flatMap f = l.flatMap g
  | [], _ => rfl
  | x :: l, h => by
    rw [List.flatMap_cons, List.flatMap_cons, h x (List.mem_cons_self ..), flat_congr fun y hy => h y (List.mem_cons_of_mem _ hy)]
theorem rc_rows {p : Play} {F : List (List Nat)} (hF : ∀ r, ∀ l ∈ F.getD r [], l < r) : ∀ k, rc p F k = (rows p.players.length k).filter (okay p F k)
  | 0 => rfl
  | k + 1 => by
    show oneMore p F (rc p F k) k = _
    unfold oneMore
    rw [rc_rows hF k, flat_filter, rows_snoc, filter_flat]
    refine flat_congr fun c hc => ?_
    have hl := rows_len hc
    rw [List.filter_map]
    have e : ∀ a, (okay p F (k + 1) ∘ fun a => c ++ [a]) a = (okay p F k c && (canPlay p a k && fits F c k a)) := fun a => by
      show (okay p F k (c ++ [a]) && (canPlay p ((c ++ [a]).getD k 0) k && fits F (c ++ [a]) k ((c ++ [a]).getD k 0))) = _
      have g : (c ++ [a]).getD k 0 = a := by rw [← hl]; exact getD_last a
      rw [okay_app hF k c a (by omega), g, fits_app a _ fun l hl2 => by have := hF k l hl2; omega]
    rw [show (okay p F (k + 1) ∘ fun a => c ++ [a]) = fun a => (okay p F k c && (canPlay p a k && fits F c k a)) from funext e]
    cases okay p F k c with
    | true => rfl
    | false => simp
theorem pow_le6 {n k : Nat} (hn : n ≤ 5) (hk : k ≤ 6) : n ^ k ≤ 15625 := by
  have h1 : n ^ k ≤ 5 ^ k := Nat.pow_le_pow_left hn k
  have h2 : 5 ^ k ≤ 5 ^ 6 := Nat.pow_le_pow_right (by decide) hk
  have h3 : (5 : Nat) ^ 6 = 15625 := by decide
  omega
theorem oneMore_len (p : Play) (F : List (List Nat)) (r : Nat) : ∀ cs, (oneMore p F cs r).length ≤ cs.length * p.players.length
  | [] => by simp [oneMore]
  | c :: cs => by
    have ih := oneMore_len p F r cs
    unfold oneMore at ih ⊢
    rw [List.flatMap_cons, List.length_append, List.length_map, List.length_cons, Nat.succ_mul]
    have h := List.length_filter_le (fun a => canPlay p a r && fits F c r a) (List.range p.players.length)
    rw [List.length_range] at h
    omega
theorem rc_len (p : Play) (F : List (List Nat)) : ∀ k, (rc p F k).length ≤ p.players.length ^ k
  | 0 => by simp [rc]
  | k + 1 => by
    have h1 := rc_len p F k
    have h2 := oneMore_len p F k (rc p F k)
    have h3 : (rc p F k).length * p.players.length ≤ p.players.length ^ k * p.players.length := Nat.mul_le_mul_right _ h1
    show (oneMore p F (rc p F k) k).length ≤ p.players.length ^ k * p.players.length
    omega
theorem foes_below {p : Play} (r : Nat) : ∀ l ∈ (foes p).getD r [], l < r := fun l hl => by
  by_cases h : r < p.dress.length
  · unfold foes at hl
    rw [List.getD_eq_getElem?_getD, foesOf_get h] at hl
    exact ((foe_mem h).mp hl).1
  · unfold foes at hl
    rw [List.getD_eq_getElem?_getD, List.getElem?_eq_none (by rw [foesOf_len]; omega)] at hl
    simp at hl
theorem okay_all {p : Play} {F : List (List Nat)} {c : Cast} : ∀ {k : Nat}, okay p F k c = true ↔ ∀ r < k, canPlay p (c.getD r 0) r = true ∧ fits F c r (c.getD r 0) = true
  | 0 => by simp [okay]
  | k + 1 => by
    show (okay p F k c && (canPlay p (c.getD k 0) k && fits F c k (c.getD k 0))) = true ↔ _
    rw [Bool.and_eq_true, Bool.and_eq_true, okay_all (k := k)]
    constructor
    · rintro ⟨h1, h2⟩ r hr
      by_cases e : r = k
      · subst e; exact h2
      · exact h1 r (by omega)
    · intro h
      exact ⟨fun r hr => h r (by omega), h k (by omega)⟩
/-! what is wrong -/
theorem wrong_none {p : Play} {c : Cast} : p.wrong c = none ↔ (∀ r < c.length, (p.fee r (c.getD r 0)).isSome = true) ∧ ∀ x ∈ pairs c.length, ¬ (c.getD x.1 0 = c.getD x.2 0 ∧ (p.clash x.1 x.2).isSome = true) := by
  unfold Play.wrong
  cases h : (List.range c.length).find? fun r => (p.fee r (c.getD r 0)).isNone with
  | some r =>
    constructor
    · intro e; cases e
    · rintro ⟨h1, _⟩
      have h2 := List.find?_some h
      have h3 := List.mem_range.mp (List.mem_of_find?_eq_some h)
      have h4 := h1 r h3
      simp only [Option.isNone_iff_eq_none] at h2
      rw [h2] at h4
      cases h4
  | none =>
    show (((pairs c.length).find? _).map _ = none) ↔ _
    rw [Option.map_eq_none_iff, List.find?_eq_none]
    rw [List.find?_eq_none] at h
    constructor
    · intro g
      refine ⟨fun r hr => ?_, fun x hx => ?_⟩
      · have := h r (List.mem_range.mpr hr)
        cases e : p.fee r (c.getD r 0) with
        | none => rw [e] at this; simp at this
        | some x => rfl
      · have := g x hx
        simpa using this
    · rintro ⟨_, g⟩ x hx
      have := g x hx
      simpa using this
theorem pairs_mem {n : Nat} {x : Nat × Nat} : x ∈ pairs n ↔ x.1 < x.2 ∧ x.2 < n := by
  unfold pairs
  rw [List.mem_flatMap]
  constructor
  · rintro ⟨a, ha, h⟩
    rw [List.mem_map] at h
    obtain ⟨b, hb, rfl⟩ := h
    obtain ⟨h1, h2⟩ := List.mem_filter.mp hb
    exact ⟨of_decide_eq_true h2, List.mem_range.mp h1⟩
  · rintro ⟨h1, h2⟩
    refine ⟨x.1, List.mem_range.mpr (by omega), ?_⟩
    rw [List.mem_map]
    exact ⟨x.2, List.mem_filter.mpr ⟨List.mem_range.mpr h2, decide_eq_true h1⟩, rfl⟩
theorem fits_foes {p : Play} {c : Cast} {r : Nat} (h : r < p.dress.length) : fits (foes p) c r (c.getD r 0) = true ↔ ∀ l < r, ¬ (c.getD l 0 = c.getD r 0 ∧ (p.clash l r).isSome = true) := by
  unfold fits foes
  rw [List.getD_eq_getElem?_getD, foesOf_get h, List.all_eq_true]
  constructor
  · intro g l hl e
    have := g l ((foe_mem h).mpr ⟨hl, e.2⟩)
    rw [e.1] at this
    simp at this
  · intro g l hl
    have hl := (foe_mem h).mp hl
    have := g l hl.1
    simp only [Bool.not_eq_true', beq_eq_false_iff_ne, ne_eq]
    exact fun e => this ⟨e, hl.2⟩
theorem okay_right {p : Play} {c : Cast} (hc : c ∈ rows p.players.length p.dress.length) : okay p (foes p) p.dress.length c = p.right c := by
  have hl := rows_len hc
  have hlt := rows_lt hc
  rw [Bool.eq_iff_iff, okay_all]
  unfold Play.right
  rw [Bool.and_eq_true, Bool.and_eq_true, Option.isNone_iff_eq_none, wrong_none, hl]
  constructor
  · intro h
    refine ⟨beq_self_eq_true _, List.all_eq_true.mpr fun a ha => decide_eq_true (hlt a ha), fun r hr => (h r hr).1, fun x hx => ?_⟩
    have hx := pairs_mem.mp hx
    exact (fits_foes hx.2).mp (h x.2 hx.2).2 x.1 hx.1
  · rintro ⟨_, _, h1, h2⟩ r hr
    exact ⟨h1 r hr, (fits_foes hr).mpr fun l hl2 => h2 (l, r) (pairs_mem.mpr ⟨hl2, hr⟩)⟩
theorem filter_congr' {α : Type} {P Q : α → Bool} : ∀ {l : List α}, (∀ x ∈ l, P x = Q x) → l.filter P = l.filter Q
  | [], _ => rfl
  | x :: l, h => by
    rw [List.filter_cons, List.filter_cons, h x (List.mem_cons_self ..), filter_congr' fun y hy => h y (List.mem_cons_of_mem _ hy)]
/-- the program's castings are the specification's -/
theorem rc_casts (p : Play) : rc p (foes p) p.dress.length = p.casts := by
  rw [rc_rows (fun r => foes_below r)]
  unfold Play.casts
  exact filter_congr' fun c hc => okay_right hc
theorem casts_len {p : Play} (h1 : p.dress.length ≤ 6) (h2 : p.players.length ≤ 5) : p.casts.length ≤ 15625 := by
  rw [← rc_casts]
  exact Nat.le_trans (rc_len _ _ _) (pow_le6 h2 h1)
/-- a casting of right length whose players can -/
structure Able (p : Play) (c : Cast) : Prop where
  len : c.length = p.dress.length
  lt : ∀ a ∈ c, a < p.players.length
  can : ∀ r < c.length, (p.fee r (c.getD r 0)).isSome = true
theorem right_able {p : Play} {c : Cast} (h : p.right c = true) : Able p c := by
  unfold Play.right at h
  rw [Bool.and_eq_true, Bool.and_eq_true, Option.isNone_iff_eq_none, wrong_none] at h
  exact ⟨eq_of_beq h.1, fun a ha => of_decide_eq_true (List.all_eq_true.mp h.2.1 a ha), h.2.2.1⟩
theorem casts_able {p : Play} {c : Cast} (h : c ∈ p.casts) : Able p c := right_able (List.mem_filter.mp h).2

/-! ### what is wrong with a casting, as the program tells it -/
def unableL (p : Play) (c : Cast) : List Nat := match (List.range c.length).find? fun r => (p.fee r (c.getD r 0)).isNone with
  | some r => [1, r, c.getD r 0]
  | none => []
def meetP (c : Cast) (x : List Nat) : Bool := c.getD (x.getD 0 0) 0 == c.getD (x.getD 1 0) 0
def meetingL (p : Play) (c : Cast) : List Nat := match (cpairs p).find? (meetP c) with
  | some x => [2, x.getD 0 0, x.getD 1 0]
  | none => []
def faultL (p : Play) (c : Cast) : List Nat := if (unableL p c).length > 0 then unableL p c else meetingL p c
def wrongL (p : Play) (c : Cast) : List Nat := match p.wrong c with
  | none => []
  | some x => [x.1, x.2.1, x.2.2]
theorem find_filterMap {α β : Type} (f : α → Option β) (Q : β → Bool) (P : α → Bool) (hP : ∀ x y, f x = some y → P x = Q y) : ∀ l : List α,
    (l.filterMap f).find? Q = (l.find? fun x => P x && (f x).isSome).bind f
  | [] => rfl
  | x :: l => by
    have ih := find_filterMap f Q P hP l
    cases e : f x with
    | none =>
      rw [List.filterMap_cons, e, List.find?_cons_of_neg (by rw [e]; simp)]
      exact ih
    | some y =>
      rw [List.filterMap_cons, e]
      show List.find? Q (y :: l.filterMap f) = _
      have hq := hP x y e
      cases g : Q y with
      | true =>
        rw [List.find?_cons_of_pos g, List.find?_cons_of_pos (by rw [e, hq, g]; rfl)]
        exact e.symm
      | false =>
        rw [List.find?_cons_of_neg (by rw [g]; simp), List.find?_cons_of_neg (by rw [hq, g]; simp)]
        exact ih
theorem meeting_eq {p : Play} {c : Cast} (h : c.length = p.dress.length) : meetingL p c = match (pairs c.length).find? fun x => c.getD x.1 0 == c.getD x.2 0 && (p.clash x.1 x.2).isSome with
    | some x => [2, x.1, x.2]
    | none => [] := by
  have e := find_filterMap (fun x : Nat × Nat => (p.clash x.1 x.2).map fun y => [x.1, x.2, y.1, y.2]) (meetP c) (fun x => c.getD x.1 0 == c.getD x.2 0) (fun x y hy => by
    rw [Option.map_eq_some_iff] at hy
    obtain ⟨z, _, rfl⟩ := hy
    rfl) (pairs c.length)
  unfold meetingL cpairs
  rw [← h, e]
  have e2 : (fun x : Nat × Nat => (c.getD x.1 0 == c.getD x.2 0 && ((p.clash x.1 x.2).map fun y => [x.1, x.2, y.1, y.2]).isSome)) = fun x => (c.getD x.1 0 == c.getD x.2 0 && (p.clash x.1 x.2).isSome) := by
    funext x
    rw [Option.isSome_map]
  rw [e2]
  cases g : (pairs c.length).find? fun x => c.getD x.1 0 == c.getD x.2 0 && (p.clash x.1 x.2).isSome with
  | none => rfl
  | some x =>
    have hx := List.find?_some g
    rw [Bool.and_eq_true] at hx
    obtain ⟨z, hz⟩ := Option.isSome_iff_exists.mp hx.2
    show (match ((p.clash x.1 x.2).map fun y => [x.1, x.2, y.1, y.2]) with
      | some x => [2, x.getD 0 0, x.getD 1 0]
      | none => []) = _
    rw [hz]
    rfl
theorem fault_wrong {p : Play} {c : Cast} (h : c.length = p.dress.length) : faultL p c = wrongL p c := by
  unfold faultL wrongL unableL Play.wrong
  cases g : (List.range c.length).find? fun r => (p.fee r (c.getD r 0)).isNone with
  | some r => rfl
  | none =>
    show meetingL p c = _
    rw [meeting_eq h]
    show _ = match (((pairs c.length).find? fun x => c.getD x.1 0 == c.getD x.2 0 && (p.clash x.1 x.2).isSome).map fun x => (2, x.1, x.2)) with
      | none => []
      | some x => [x.1, x.2.1, x.2.2]
    cases (pairs c.length).find? fun x => c.getD x.1 0 == c.getD x.2 0 && (p.clash x.1 x.2).isSome with
    | none => rfl
    | some x => rfl
end RD
namespace RD
open Uw02

/-! ### costs -/
def wageOf (p : Play) (a : Nat) : Nat := ((p.players[a]?).map fun x => x.wage).getD 0
def feeUp (p : Play) (c : Cast) (k : Nat) : Nat := total ((List.range k).map fun r => (p.fee r (c.getD r 0)).getD 0)
theorem feeUp_more (p : Play) (c : Cast) (k : Nat) : feeUp p c (k + 1) = feeUp p c k + (p.fee k (c.getD k 0)).getD 0 := by
  unfold feeUp
  rw [List.range_succ, List.map_append, total_append]
  rw [List.map_cons, List.map_nil, total_cons, total_nil, Nat.add_zero]
theorem zip_range {α : Type} (g : Nat → Nat → α) (c : List Nat) : c.zipIdx.map (fun x => g x.2 x.1) = (List.range c.length).map fun r => g r (c.getD r 0) := by
  apply List.ext_getElem?
  intro i
  rw [List.getElem?_map, List.getElem?_map, List.getElem?_zipIdx]
  by_cases h : i < c.length
  · have e : c.getD i 0 = c[i] := by rw [List.getD_eq_getElem?_getD, List.getElem?_eq_getElem h]; rfl
    rw [List.getElem?_range h, List.getElem?_eq_getElem h]
    show some (g (0 + i) c[i]) = some (g i (c.getD i 0))
    rw [e, Nat.zero_add]
  · rw [List.getElem?_eq_none (by omega), List.getElem?_eq_none (by rw [List.length_range]; omega)]
    rfl
theorem cost_eq (p : Play) (c : Cast) : p.cost c = total ((p.engaged c).map (wageOf p)) + feeUp p c c.length := by
  unfold Play.cost feeUp
  rw [zip_range fun r a => (p.fee r a).getD 0]
  rfl

/-! ### the least of some castings -/
def minOf : List Nat → Nat
  | [] => 0
  | [x] => x
  | x :: y :: r => min x (minOf (y :: r))
theorem minOf_is : ∀ {l : List Nat}, l ≠ [] → minOf l ∈ l ∧ ∀ y ∈ l, minOf l ≤ y
  | [], h => absurd rfl h
  | [x], _ => by simp [minOf]
  | x :: y :: r, _ => by
    obtain ⟨h1, h2⟩ := minOf_is (l := y :: r) (by simp)
    show min x (minOf (y :: r)) ∈ _ ∧ _
    constructor
    · by_cases h : x ≤ minOf (y :: r)
      · rw [Nat.min_eq_left h]; exact List.mem_cons_self ..
      · rw [Nat.min_eq_right (by omega)]; exact List.mem_cons_of_mem _ h1
    · intro z hz
      show min x (minOf (y :: r)) ≤ z
      rcases List.mem_cons.mp hz with e | m
      · rw [e]; exact Nat.min_le_left _ _
      · exact Nat.le_trans (Nat.min_le_right _ _) (h2 z m)
theorem minOf_unique {l : List Nat} {m : Nat} (h1 : m ∈ l) (h2 : ∀ y ∈ l, m ≤ y) : m = minOf l := by
  have h := minOf_is (l := l) (fun e => by rw [e] at h1; simp at h1)
  have a := h2 _ h.1
  have b := h.2 _ h1
  omega
/-- those whose measure is the least -/
def keep (f : Cast → Nat) (cs : List Cast) : List Cast := cs.filter fun c => f c == minOf (cs.map f)
theorem keep_ne {f : Cast → Nat} {cs : List Cast} (h : cs ≠ []) : keep f cs ≠ [] := by
  obtain ⟨h1, _⟩ := minOf_is (l := cs.map f) (by simpa using h)
  rw [List.mem_map] at h1
  obtain ⟨c, hc, e⟩ := h1
  intro z
  have : c ∈ keep f cs := List.mem_filter.mpr ⟨hc, by rw [e]; simp⟩
  rw [z] at this
  simp at this
theorem keep_mem {f : Cast → Nat} {cs : List Cast} {c : Cast} (h : c ∈ keep f cs) : c ∈ cs := (List.mem_filter.mp h).1
def leastOf (f : Cast → Nat) (cs : List Cast) : Option Best := match keep f cs with
  | [] => none
  | c :: r => some ⟨minOf (cs.map f), (c :: r).length, c⟩
theorem minOf_snoc {l : List Nat} (h : l ≠ []) (x : Nat) : minOf (l ++ [x]) = min (minOf l) x := by
  symm
  obtain ⟨h1, h2⟩ := minOf_is h
  apply minOf_unique
  · by_cases g : minOf l ≤ x
    · rw [Nat.min_eq_left g]; simp [h1]
    · rw [Nat.min_eq_right (by omega)]; simp
  · intro y hy
    rcases List.mem_append.mp hy with m | m
    · exact Nat.le_trans (Nat.min_le_left _ _) (h2 y m)
    · rw [List.mem_singleton.mp m]; exact Nat.min_le_right _ _
theorem better_snoc (f : Cast → Nat) (d : List Cast) (c : Cast) : better (leastOf f d) (some ⟨f c, 1, c⟩) = leastOf f (d ++ [c]) := by
  by_cases hd : d = []
  · subst hd
    show better none _ = leastOf f [c]
    unfold leastOf keep
    simp [minOf, better]
  · have hm : d.map f ≠ [] := by simpa using hd
    obtain ⟨h1, h2⟩ := minOf_is hm
    have e : minOf ((d ++ [c]).map f) = min (minOf (d.map f)) (f c) := by
      rw [List.map_append]
      exact minOf_snoc hm (f c)
    have hk := keep_ne (f := f) hd
    unfold leastOf
    cases k : keep f d with
    | nil => exact absurd k hk
    | cons x r =>
      by_cases g1 : f c < minOf (d.map f)
      · have ek : keep f (d ++ [c]) = [c] := by
          unfold keep
          rw [e, Nat.min_eq_right (by omega), List.filter_append]
          have z : d.filter (fun c_1 => f c_1 == f c) = [] := by
            rw [List.filter_eq_nil_iff]
            intro y hy
            have := h2 (f y) (List.mem_map_of_mem hy)
            simp
            omega
          rw [z]
          simp
        rw [ek, e, Nat.min_eq_right (by omega)]
        show (if f c < minOf (d.map f) then _ else _) = _
        rw [if_pos g1]
        rfl
      · by_cases g2 : minOf (d.map f) < f c
        · have ek : keep f (d ++ [c]) = x :: r := by
            rw [← k]
            unfold keep
            rw [e, Nat.min_eq_left (by omega), List.filter_append]
            have z : [c].filter (fun c_1 => f c_1 == minOf (d.map f)) = [] := by
              rw [List.filter_eq_nil_iff]
              intro y hy
              rw [List.mem_singleton.mp hy]
              simp
              omega
            rw [z, List.append_nil]
          rw [ek, e, Nat.min_eq_left (by omega)]
          show (if f c < minOf (d.map f) then _ else if minOf (d.map f) < f c then _ else _) = _
          rw [if_neg g1, if_pos g2]
        · have g3 : f c = minOf (d.map f) := by omega
          have ek : keep f (d ++ [c]) = (x :: r) ++ [c] := by
            rw [← k]
            unfold keep
            rw [e, Nat.min_eq_left (by omega), List.filter_append]
            congr 1
            simp [g3]
          rw [ek, e, Nat.min_eq_left (by omega)]
          show (if f c < minOf (d.map f) then _ else if minOf (d.map f) < f c then _ else _) = _
          rw [if_neg g1, if_neg g2]
          show _ = some (Best.mk (minOf (d.map f)) ((x :: (r ++ [c])).length) x)
          simp
theorem least_from (f : Cast → Nat) : ∀ (l d : List Cast), (l.map fun c => some (⟨f c, 1, c⟩ : Best)).foldl better (leastOf f d) = leastOf f (d ++ l)
  | [], d => by rw [List.append_nil]; rfl
  | c :: l, d => by
    rw [List.map_cons, List.foldl_cons, better_snoc, least_from f l, List.append_assoc]
    rfl
theorem least_eq (p : Play) (f : Cast → Nat) : p.least f = leastOf f p.casts := by
  have h := least_from f p.casts []
  rw [List.nil_append] at h
  exact h
theorem leastOf_nil (f : Cast → Nat) : leastOf f [] = none := rfl
theorem leastOf_some {f : Cast → Nat} {cs : List Cast} (h : cs ≠ []) : leastOf f cs = some ⟨minOf (cs.map f), (keep f cs).length, (keep f cs).headD []⟩ := by
  have hk := keep_ne (f := f) h
  unfold leastOf
  cases k : keep f cs with
  | nil => exact absurd k hk
  | cons x r => rfl
theorem leastOf_congr {f g : Cast → Nat} {cs : List Cast} (h : ∀ c ∈ cs, f c = g c) : leastOf f cs = leastOf g cs := by
  have e : cs.map f = cs.map g := List.map_congr_left h
  have k : keep f cs = keep g cs := by
    unfold keep
    rw [e]
    exact filter_congr' fun c hc => by rw [h c hc]
  unfold leastOf
  rw [k, e]

/-! ### without a player -/
def others (p : Play) (a : Nat) : List Cast := p.casts.filter fun c => !c.contains a
theorem wo_len (p : Play) (a : Nat) : (p.without a).players.length = p.players.length := by
  unfold Play.without
  simp
theorem wo_get (p : Play) (a x : Nat) : (p.without a).players[x]? = (p.players[x]?).map fun y => if x = a then { y with fees := y.fees.map fun _ => none } else y := by
  unfold Play.without
  show (p.players.zipIdx.map _)[x]? = _
  rw [List.getElem?_map, List.getElem?_zipIdx]
  cases p.players[x]? with
  | none => rfl
  | some y =>
    show some (if 0 + x = a then _ else _) = some (if x = a then _ else _)
    rw [Nat.zero_add]
theorem getD_none {α : Type} : ∀ (l : List α) (r : Nat), (l.map fun _ => (none : Option Nat)).getD r none = none
  | [], r => by simp
  | x :: l, 0 => rfl
  | x :: l, r + 1 => by
    have := getD_none l r
    simpa using this
theorem wo_fee (p : Play) (a r x : Nat) : (p.without a).fee r x = if x = a then none else p.fee r x := by
  unfold Play.fee
  rw [wo_get]
  cases p.players[x]? with
  | none => simp
  | some y =>
    show (if x = a then _ else y).fees.getD r none = _
    by_cases h : x = a
    · rw [if_pos h, if_pos h]
      exact getD_none y.fees r
    · rw [if_neg h, if_neg h]
      rfl
theorem wo_wage (p : Play) (a x : Nat) : wageOf (p.without a) x = wageOf p x := by
  unfold wageOf
  rw [wo_get]
  cases p.players[x]? with
  | none => rfl
  | some y =>
    show (if x = a then _ else y).wage = y.wage
    by_cases h : x = a
    · rw [if_pos h]
    · rw [if_neg h]
theorem wo_clash (p : Play) (a r s : Nat) : (p.without a).clash r s = p.clash r s := rfl
theorem mem_getD {c : List Nat} {a : Nat} : a ∈ c ↔ ∃ r < c.length, c.getD r 0 = a := by
  constructor
  · intro h
    obtain ⟨r, hr, e⟩ := List.getElem_of_mem h
    exact ⟨r, hr, by rw [List.getD_eq_getElem?_getD, List.getElem?_eq_getElem hr]; exact e⟩
  · rintro ⟨r, hr, e⟩
    rw [List.getD_eq_getElem?_getD, List.getElem?_eq_getElem hr] at e
    rw [← e]
    exact List.getElem_mem hr
theorem wo_right (p : Play) (a : Nat) (c : Cast) : (p.without a).right c = (p.right c && !c.contains a) := by
  rw [Bool.eq_iff_iff]
  unfold Play.right
  rw [wo_len, show (p.without a).dress = p.dress from rfl]
  simp only [Bool.and_eq_true, Option.isNone_iff_eq_none, wrong_none, wo_clash, Bool.not_eq_true', wo_fee]
  constructor
  · rintro ⟨h1, h2, h3, h4⟩
    have hn : ∀ r < c.length, ¬ c.getD r 0 = a := fun r hr e => by
      have := h3 r hr
      rw [if_pos e] at this
      cases this
    refine ⟨⟨h1, h2, fun r hr => ?_, h4⟩, ?_⟩
    · have := h3 r hr
      rwa [if_neg (hn r hr)] at this
    · cases e : c.contains a with
      | false => rfl
      | true =>
        obtain ⟨r, hr, e2⟩ := mem_getD.mp (List.contains_iff_mem.mp e)
        exact absurd e2 (hn r hr)
  · rintro ⟨⟨h1, h2, h3, h4⟩, h5⟩
    refine ⟨h1, h2, fun r hr => ?_, h4⟩
    rw [if_neg]
    · exact h3 r hr
    · intro e
      have : c.contains a = true := List.contains_iff_mem.mpr (mem_getD.mpr ⟨r, hr, e⟩)
      rw [h5] at this
      cases this
theorem wo_casts (p : Play) (a : Nat) : (p.without a).casts = others p a := by
  unfold others Play.casts
  rw [wo_len, show (p.without a).dress = p.dress from rfl, List.filter_filter]
  refine filter_congr' fun c _ => ?_
  rw [wo_right, Bool.and_comm]
theorem wo_cost {p : Play} {a : Nat} {c : Cast} (h : c.contains a = false) : (p.without a).cost c = p.cost c := by
  rw [cost_eq, cost_eq]
  have e1 : (p.without a).engaged c = p.engaged c := by
    unfold Play.engaged
    rw [wo_len]
  have e2 : wageOf (p.without a) = wageOf p := funext fun x => wo_wage p a x
  have e3 : feeUp (p.without a) c c.length = feeUp p c c.length := by
    unfold feeUp
    congr 1
    refine List.map_congr_left fun r hr => ?_
    rw [wo_fee, if_neg]
    intro e
    have : c.contains a = true := List.contains_iff_mem.mpr (mem_getD.mpr ⟨r, List.mem_range.mp hr, e⟩)
    rw [h] at this
    cases this
  rw [e1, e2, e3]
theorem wo_cheapest (p : Play) (a : Nat) : (p.without a).cheapest = leastOf p.cost (others p a) := by
  unfold Play.cheapest
  rw [least_eq, wo_casts]
  refine leastOf_congr fun c hc => wo_cost ?_
  have := (List.mem_filter.mp hc).2
  simpa using this

/-! ### what the calls answer, as the program tells it -/
def aboveB (xs : List Nat) (m : Int) : Bool := xs.any fun x => decide (m < (x : Int))
def begRef (d : List Nat) : Int := if d.length < 1 ∨ 6 < d.length then -1 else if aboveB d 1000 = true then -1 else 0
def sceneRef (p : Play) (n : Nat) (r : List Nat) : Int := if 1000 < n then -1 else if aboveB r ((p.dress.length : Int) - 1) = true then -1 else if rising r = false then -1 else if 10 ≤ p.scenes.length then -5 else 0
def playerRef (p : Play) (w : Nat) (f : List Nat) : Int := if 100000 < w then -1 else if aboveB f 100001 = true then -1 else if f.length ≠ p.dress.length then -1 else if 5 ≤ p.players.length then -5 else 0
def checkRef (p : Play) (c : List Nat) : Int := if c.length ≠ p.dress.length then -1 else if aboveB c ((p.players.length : Int) - 1) = true then -1 else 0
theorem above_all {xs : List Nat} {n : Nat} {m : Int} (h : ∀ x : Nat, m < (x : Int) ↔ ¬ x ≤ n) : aboveB xs m = true ↔ (xs.all fun x => decide (x ≤ n)) = false := by
  unfold aboveB
  rw [List.any_eq_true, ← Bool.not_eq_true, List.all_eq_true]
  constructor
  · rintro ⟨x, hx, e⟩ g
    exact (h x).mp (of_decide_eq_true e) (of_decide_eq_true (g x hx))
  · intro g
    apply Classical.byContradiction
    intro k
    apply g
    intro x hx
    apply decide_eq_true
    apply Classical.byContradiction
    intro e
    exact k ⟨x, hx, decide_eq_true ((h x).mpr e)⟩
theorem above_all_lt {xs : List Nat} {n : Nat} {m : Int} (h : ∀ x : Nat, m < (x : Int) ↔ ¬ x < n) : aboveB xs m = true ↔ (xs.all fun x => decide (x < n)) = false := by
  unfold aboveB
  rw [List.any_eq_true, ← Bool.not_eq_true, List.all_eq_true]
  constructor
  · rintro ⟨x, hx, e⟩ g
    exact (h x).mp (of_decide_eq_true e) (of_decide_eq_true (g x hx))
  · intro g
    apply Classical.byContradiction
    intro k
    apply g
    intro x hx
    apply decide_eq_true
    apply Classical.byContradiction
    intro e
    exact k ⟨x, hx, decide_eq_true ((h x).mpr e)⟩
theorem step_begins (p : Play) (d : List Nat) : step p (.begins d) = if begRef d < 0 then (p, ok (begRef d)) else (⟨d, [], []⟩, ok (d.length : Nat)) := by
  show (if d = [] ∨ ROLES < d.length ∨ (d.all fun x => decide (x ≤ LONG)) = false then _ else _) = _
  have h0 : d = [] ↔ d.length < 1 := by
    rw [← List.length_eq_zero_iff]; omega
  have h1 := above_all (xs := d) (n := LONG) (m := 1000) (fun x => by unfold LONG; omega)
  unfold begRef
  by_cases a : d.length < 1 ∨ 6 < d.length
  · rw [if_pos a, if_pos (by rcases a with a | a; exact .inl (h0.mpr a); exact .inr (.inl a)), if_pos (by decide)]
  · rw [if_neg a]
    by_cases b : aboveB d 1000 = true
    · rw [if_pos b, if_pos (.inr (.inr (h1.mp b))), if_pos (by decide)]
    · rw [if_neg b, if_neg, if_neg (by decide)]
      rintro (e | e | e)
      · exact a (.inl (h0.mp e))
      · exact a (.inr e)
      · exact b (h1.mpr e)
theorem step_scene (p : Play) (n : Nat) (r : List Nat) : step p (.scene n r) = if sceneRef p n r < 0 then (p, ok (sceneRef p n r)) else ({ p with scenes := p.scenes ++ [⟨n, r⟩] }, ok (p.scenes.length : Nat)) := by
  show (if LONG < n ∨ rising r = false ∨ (r.all fun x => decide (x < p.dress.length)) = false then _ else if SCENES ≤ p.scenes.length then _ else _) = _
  have h1 := above_all_lt (xs := r) (n := p.dress.length) (m := (p.dress.length : Int) - 1) (fun x => by omega)
  unfold sceneRef
  by_cases a : 1000 < n
  · rw [if_pos a, if_pos (.inl a), if_pos (by decide)]
  · rw [if_neg a]
    by_cases b : aboveB r ((p.dress.length : Int) - 1) = true
    · rw [if_pos b, if_pos (.inr (.inr (h1.mp b))), if_pos (by decide)]
    · rw [if_neg b]
      by_cases c : rising r = false
      · rw [if_pos c, if_pos (.inr (.inl c)), if_pos (by decide)]
      · rw [if_neg c, if_neg (by
          rintro (e | e | e)
          · exact a e
          · exact c e
          · exact b (h1.mpr e))]
        by_cases g : 10 ≤ p.scenes.length
        · rw [if_pos g, if_pos (show SCENES ≤ p.scenes.length from g), if_pos (by decide)]
        · rw [if_neg g, if_neg (show ¬ SCENES ≤ p.scenes.length from g), if_neg (by decide)]
theorem step_player (p : Play) (w : Nat) (f : List Nat) : step p (.player w f) = if playerRef p w f < 0 then (p, ok (playerRef p w f)) else ({ p with players := p.players ++ [⟨w, f.map fun x => if x = 0 then none else some (x - 1)⟩] }, ok (p.players.length : Nat)) := by
  show (if COST < w ∨ f.length ≠ p.dress.length ∨ (f.all fun x => decide (x ≤ COST + 1)) = false then _ else if PLAYERS ≤ p.players.length then _ else _) = _
  have h1 := above_all (xs := f) (n := COST + 1) (m := 100001) (fun x => by unfold COST; omega)
  unfold playerRef
  by_cases a : 100000 < w
  · rw [if_pos a, if_pos (.inl a), if_pos (by decide)]
  · rw [if_neg a]
    by_cases b : aboveB f 100001 = true
    · rw [if_pos b, if_pos (.inr (.inr (h1.mp b))), if_pos (by decide)]
    · rw [if_neg b]
      by_cases c : f.length ≠ p.dress.length
      · rw [if_pos c, if_pos (.inr (.inl c)), if_pos (by decide)]
      · rw [if_neg c, if_neg (by
          rintro (e | e | e)
          · exact a e
          · exact c e
          · exact b (h1.mpr e))]
        by_cases g : 5 ≤ p.players.length
        · rw [if_pos g, if_pos (show PLAYERS ≤ p.players.length from g), if_pos (by decide)]
        · rw [if_neg g, if_neg (show ¬ PLAYERS ≤ p.players.length from g), if_neg (by decide)]
/-- the answer of check -/
def checkAns (p : Play) (c : List Nat) : Ans := if checkRef p c < 0 then ok (checkRef p c) else if (wrongL p c).length > 0 then ⟨0, [wrongL p c]⟩ else ⟨1, [[p.cost c], p.engaged c]⟩
theorem check_good {p : Play} {c : List Nat} (h : ¬ checkRef p c < 0) : c.length = p.dress.length ∧ ∀ a ∈ c, a < p.players.length := by
  have h1 := above_all_lt (xs := c) (n := p.players.length) (m := (p.players.length : Int) - 1) (fun x => by omega)
  unfold checkRef at h
  by_cases a : c.length ≠ p.dress.length
  · rw [if_pos a] at h
    exact absurd (by decide) h
  · rw [if_neg a] at h
    by_cases b : aboveB c ((p.players.length : Int) - 1) = true
    · rw [if_pos b] at h
      exact absurd (by decide) h
    · refine ⟨by omega, fun x hx => ?_⟩
      have : (c.all fun x => decide (x < p.players.length)) = true := by
        cases e : (c.all fun x => decide (x < p.players.length)) with
        | true => rfl
        | false => exact absurd (h1.mpr e) b
      exact of_decide_eq_true (List.all_eq_true.mp this x hx)
theorem step_check (p : Play) (c : List Nat) : step p (.check c) = (p, checkAns p c) := by
  show (if c.length ≠ p.dress.length ∨ (c.all fun a => decide (a < p.players.length)) = false then _ else _) = _
  have h1 := above_all_lt (xs := c) (n := p.players.length) (m := (p.players.length : Int) - 1) (fun x => by omega)
  unfold checkAns checkRef
  by_cases a : c.length ≠ p.dress.length
  · rw [if_pos a, if_pos (.inl a), if_pos (by decide)]
  · rw [if_neg a]
    by_cases b : aboveB c ((p.players.length : Int) - 1) = true
    · rw [if_pos b, if_pos (.inr (h1.mp b)), if_pos (by decide)]
    · rw [if_neg b, if_neg (by
          rintro (e | e)
          · exact a e
          · exact b (h1.mpr e)), if_neg (by decide)]
      unfold wrongL
      cases p.wrong c with
      | none => rfl
      | some x => rfl
def choiceAns (p : Play) (f : Cast → Nat) (cs : List Cast) : Ans := ⟨(minOf (cs.map f) : Nat), [[(keep f cs).length, p.cost ((keep f cs).headD [])], (keep f cs).headD [], p.engaged ((keep f cs).headD [])]⟩
def bestAns (p : Play) (f : Cast → Nat) : Ans := if p.casts.length = 0 then ok (-6) else choiceAns p f p.casts
theorem bestOut_eq (p : Play) (f : Cast → Nat) : bestOut p (p.least f) = bestAns p f := by
  rw [least_eq]
  unfold bestAns
  by_cases h : p.casts.length = 0
  · rw [if_pos h, List.length_eq_zero_iff.mp h, leastOf_nil]
    rfl
  · rw [if_neg h, leastOf_some (fun e => h (by rw [e]; rfl))]
    rfl
theorem step_cheapest (p : Play) : step p .cheapest = (p, bestAns p p.cost) := by
  show (p, bestOut p (p.least p.cost)) = _
  rw [bestOut_eq]
def sizeOf (p : Play) (c : Cast) : Nat := (p.engaged c).length
theorem step_fewest (p : Play) : step p .fewest = (p, bestAns p (sizeOf p)) := by
  show (p, bestOut p (p.least (sizeOf p))) = _
  rw [bestOut_eq]
def illAns (p : Play) (a : Nat) : Ans := if p.players.length ≤ a then ok (-2) else if p.casts.length = 0 then ok (-6) else if (others p a).length = 0 then ok (-3)
  else ⟨(minOf ((others p a).map p.cost) : Int) - (minOf (p.casts.map p.cost) : Int), [(keep p.cost (others p a)).headD []]⟩
theorem step_ill (p : Play) (a : Nat) : step p (.ill a) = (p, illAns p a) := by
  show (if p.players.length ≤ a then _ else _) = _
  unfold illAns
  by_cases h : p.players.length ≤ a
  · rw [if_pos h, if_pos h]
  · rw [if_neg h, if_neg h, wo_cheapest, show p.cheapest = leastOf p.cost p.casts from least_eq p p.cost]
    by_cases h1 : p.casts.length = 0
    · rw [if_pos h1, List.length_eq_zero_iff.mp h1, leastOf_nil]
    · rw [if_neg h1, leastOf_some (fun e => h1 (by rw [e]; rfl))]
      by_cases h2 : (others p a).length = 0
      · rw [if_pos h2, List.length_eq_zero_iff.mp h2, leastOf_nil]
      · rw [if_neg h2, leastOf_some (fun e => h2 (by rw [e]; rfl))]
theorem step_clashes (p : Play) : step p .clashes = (p, ⟨((cpairs p).length : Nat), cpairs p⟩) := rfl

/-! ### a play that keeps its bounds -/
structure Good (p : Play) : Prop where
  dl : p.dress.length ≤ 6
  sl : p.scenes.length ≤ 10
  pl : p.players.length ≤ 5
  fl : ∀ x ∈ p.players, x.fees.length = p.dress.length
theorem good_init : Good init := ⟨by decide, by decide, by decide, fun x hx => by simp [init] at hx⟩
theorem good_begins {d : List Nat} (h : ¬ begRef d < 0) : Good ⟨d, [], []⟩ := by
  refine ⟨?_, by simp, by simp, fun x hx => by simp at hx⟩
  show d.length ≤ 6
  unfold begRef at h
  by_cases a : d.length < 1 ∨ 6 < d.length
  · rw [if_pos a] at h
    exact absurd (by decide) h
  · omega
theorem good_scene {p : Play} (g : Good p) {n : Nat} {r : List Nat} (h : ¬ sceneRef p n r < 0) : Good { p with scenes := p.scenes ++ [⟨n, r⟩] } := by
  refine ⟨g.dl, ?_, g.pl, g.fl⟩
  show (p.scenes ++ [_]).length ≤ 10
  rw [List.length_append]
  unfold sceneRef at h
  repeat' split at h
  all_goals first | exact absurd (by decide) h | (simp; omega)
theorem good_player {p : Play} (g : Good p) {w : Nat} {f : List Nat} (h : ¬ playerRef p w f < 0) : Good { p with players := p.players ++ [⟨w, f.map fun x => if x = 0 then none else some (x - 1)⟩] } := by
  have e : f.length = p.dress.length ∧ p.players.length < 5 := by
    unfold playerRef at h
    repeat' split at h
    all_goals first | exact absurd (by decide) h | skip
    constructor <;> omega
  refine ⟨g.dl, g.sl, ?_, fun x hx => ?_⟩
  · show (p.players ++ [_]).length ≤ 5
    rw [List.length_append]
    simp
    omega
  · rcases List.mem_append.mp hx with m | m
    · exact g.fl x m
    · rw [List.mem_singleton.mp m]
      show (f.map _).length = p.dress.length
      rw [List.length_map]
      exact e.1
end RD
namespace RD
open Uw02

/-! ### the calls as they are handed in -/
def toI (l : List Nat) : List Int := l.map fun (x : Nat) => (x : Int)
/-- a call's numbers, its list behind how many it has -/
def encC : Uw02.Call → List Int
  | .begins d => 0 :: (d.length : Int) :: toI d
  | .scene n r => 1 :: (n : Int) :: (r.length : Int) :: toI r
  | .player w f => 2 :: (w : Int) :: (f.length : Int) :: toI f
  | .clashes => [3]
  | .cheapest => [4]
  | .fewest => [5]
  | .check c => 6 :: (c.length : Int) :: toI c
  | .ill a => [7, (a : Int)]
/-- its list has 20 members at most -/
def Small : Uw02.Call → Prop
  | .begins d => d.length ≤ 20
  | .scene _ r => r.length ≤ 20
  | .player _ f => f.length ≤ 20
  | .check c => c.length ≤ 20
  | _ => True
theorem encC_pos (c : Uw02.Call) : 0 < (encC c).length := by
  cases c <;> simp [encC]
/-- the answers, call by call -/
def runs : Play → List Uw02.Call → List (List Int)
  | _, [] => []
  | p, c :: r => Uw02Neutral.out (step p c).2 :: runs (step p c).1 r
def told (l : List (List Int)) : List Int := l.flatMap fun a => (a.length : Int) :: a
def sizes : List (List Int) → Nat
  | [] => 0
  | a :: r => a.length + sizes r
def key (c : List (List Int)) : Option Uw02.Call := Uw02Neutral.callOf ((PyUw02.whole c).headD [])
theorem nat_back {l : List Int} (h : l.all Uw02Neutral.nat = true) : toI (l.map Int.toNat) = l := by
  unfold toI
  rw [List.map_map]
  conv => rhs; rw [← List.map_id l]
  refine List.map_congr_left fun x hx => ?_
  have := List.all_eq_true.mp h x hx
  unfold Uw02Neutral.nat at this
  rw [Bool.and_eq_true] at this
  have := of_decide_eq_true this.1
  show ((x.toNat : Nat) : Int) = x
  omega
theorem row_is {l x t : List Int} (h : PyFlat.row l = some (x, t)) : l = (x.length : Int) :: x ++ t := by
  cases l with
  | nil => cases h
  | cons n r =>
    have h : (if 0 ≤ n ∧ n.toNat ≤ r.length then some (r.take n.toNat, r.drop n.toNat) else none) = some (x, t) := h
    by_cases g : 0 ≤ n ∧ n.toNat ≤ r.length
    · rw [if_pos g] at h
      obtain ⟨rfl, rfl⟩ := Prod.mk.inj (Option.some.inj h)
      rw [List.length_take, Nat.min_eq_left g.2, List.cons_append, List.take_append_drop]
      congr 1
      omega
    · rw [if_neg g] at h
      cases h
theorem rows_zero {l : List Int} {xs : List (List Int)} {t : List Int} (h : PyFlat.rows 0 l = some (xs, t)) : xs = [] ∧ t = l := by
  obtain ⟨rfl, rfl⟩ := Prod.mk.inj (Option.some.inj h)
  exact ⟨rfl, rfl⟩
theorem rows_one {l : List Int} {xs : List (List Int)} {t : List Int} (h : PyFlat.rows 1 l = some (xs, t)) : ∃ x, xs = [x] ∧ l = (x.length : Int) :: x ++ t := by
  have h : (match PyFlat.row l with
    | none => none
    | some (x, s) => match PyFlat.rows 0 s with
      | none => none
      | some (xs, t) => some (x :: xs, t)) = some (xs, t) := h
  cases e : PyFlat.row l with
  | none => rw [e] at h; cases h
  | some y =>
    obtain ⟨x, s⟩ := y
    rw [e] at h
    have h : some ([x], s) = some (xs, t) := h
    obtain ⟨rfl, rfl⟩ := Prod.mk.inj (Option.some.inj h)
    exact ⟨x, rfl, row_is e⟩
theorem listIn_is {n : Nat} {l x : List Nat} (h : Uw02Neutral.listIn (n :: l) = some x) : x = l ∧ n = l.length ∧ l.length ≤ 20 := by
  have h : (if n ≤ 20 ∧ l.length = n then some l else none) = some x := h
  by_cases g : n ≤ 20 ∧ l.length = n
  · rw [if_pos g] at h
    have := Option.some.inj h
    exact ⟨this.symm, g.2.symm, by omega⟩
  · rw [if_neg g] at h
    cases h
theorem call_is {l : List Int} {n k : Nat} {p : Int} {r : List Int} {c : List (List Int)} {t : List Int} (hl : l = p :: r) (hs : PyUw02.shape p = some (n, k)) (h : PyFlat.call PyUw02.shape l = some (c, t)) :
    n ≤ r.length ∧ ∃ xs, PyFlat.rows k (r.drop n) = some (xs, t) ∧ c = (p :: r.take n) :: xs := by
  subst hl
  unfold PyFlat.call at h
  simp only [hs] at h
  split at h
  · cases h
  · rename_i g
    refine ⟨by omega, ?_⟩
    cases e : PyFlat.rows k (r.drop n) with
    | none => rw [e] at h; cases h
    | some y =>
      obtain ⟨xs, s⟩ := y
      rw [e] at h
      obtain ⟨rfl, rfl⟩ := Prod.mk.inj (Option.some.inj h)
      exact ⟨xs, rfl, rfl⟩
theorem callOf_some {l : List Int} {x : Uw02.Call} (h : Uw02Neutral.callOf l = some x) : l.all Uw02Neutral.nat = true ∧ Uw02Neutral.callIn (l.map Int.toNat) = some x := by
  unfold Uw02Neutral.callOf at h
  split at h
  · cases h
  · rename_i g
    exact ⟨by simpa using g, h⟩
theorem one_cons {r : List Int} (h : 1 ≤ r.length) : ∃ z s, r = z :: s := by
  cases r with
  | nil => simp at h
  | cons z s => exact ⟨z, s, rfl⟩
/-- one call: the numbers are the call's, and what stands behind -/
theorem parse_one {l : List Int} {c : List (List Int)} {t : List Int} {x : Uw02.Call} (h : PyFlat.call PyUw02.shape l = some (c, t)) (hx : key c = some x) : l = encC x ++ t ∧ Small x := by
  cases l with
  | nil => cases h
  | cons p r =>
    cases hs : PyUw02.shape p with
    | none =>
      unfold PyFlat.call at h
      simp only [hs] at h
      cases h
    | some nk =>
      obtain ⟨n, k⟩ := nk
      obtain ⟨hn, xs, hr, rfl⟩ := call_is rfl hs h
      unfold PyUw02.shape at hs
      unfold key at hx
      by_cases e0 : p = 0
      · subst e0
        rw [if_pos rfl] at hs
        obtain ⟨rfl, rfl⟩ := Prod.mk.inj (Option.some.inj hs)
        obtain ⟨d, rfl, hd⟩ := rows_one hr
        obtain ⟨h1, h2⟩ := callOf_some (l := 0 :: (d.length : Int) :: d) hx
        have h3 : (Uw02Neutral.listIn (((d.length : Int)).toNat :: d.map Int.toNat)).map Uw02.Call.begins = some x := h2
        rw [Option.map_eq_some_iff] at h3
        obtain ⟨y, hy, rfl⟩ := h3
        obtain ⟨rfl, _, h5⟩ := listIn_is hy
        rw [List.all_cons, List.all_cons, Bool.and_eq_true, Bool.and_eq_true] at h1
        have hb := nat_back h1.2.2
        refine ⟨?_, h5⟩
        show 0 :: r = 0 :: (((d.map Int.toNat).length : Nat) : Int) :: toI (d.map Int.toNat) ++ t
        rw [hb, List.length_map]
        exact congrArg _ hd
      rw [if_neg e0] at hs
      by_cases e1 : p = 1
      · subst e1
        rw [if_pos rfl] at hs
        obtain ⟨rfl, rfl⟩ := Prod.mk.inj (Option.some.inj hs)
        obtain ⟨z, s, rfl⟩ := one_cons hn
        obtain ⟨d, rfl, hd⟩ := rows_one hr
        obtain ⟨h1, h2⟩ := callOf_some (l := 1 :: z :: (d.length : Int) :: d) hx
        have h3 : (Uw02Neutral.listIn (((d.length : Int)).toNat :: d.map Int.toNat)).map (fun r => Uw02.Call.scene z.toNat r) = some x := h2
        rw [Option.map_eq_some_iff] at h3
        obtain ⟨y, hy, rfl⟩ := h3
        obtain ⟨rfl, _, h5⟩ := listIn_is hy
        rw [List.all_cons, List.all_cons, List.all_cons, Bool.and_eq_true, Bool.and_eq_true, Bool.and_eq_true] at h1
        have hb := nat_back h1.2.2.2
        have hz := nat_back (l := [z]) (by rw [List.all_cons, h1.2.1]; rfl)
        have hz : ((z.toNat : Nat) : Int) = z := (List.cons.inj hz).1
        refine ⟨?_, h5⟩
        show 1 :: z :: s = 1 :: ((z.toNat : Nat) : Int) :: (((d.map Int.toNat).length : Nat) : Int) :: toI (d.map Int.toNat) ++ t
        rw [hb, List.length_map, hz]
        exact congrArg (fun q => (1 : Int) :: z :: q) hd
      rw [if_neg e1] at hs
      by_cases e2 : p = 2
      · subst e2
        rw [if_pos rfl] at hs
        obtain ⟨rfl, rfl⟩ := Prod.mk.inj (Option.some.inj hs)
        obtain ⟨z, s, rfl⟩ := one_cons hn
        obtain ⟨d, rfl, hd⟩ := rows_one hr
        obtain ⟨h1, h2⟩ := callOf_some (l := 2 :: z :: (d.length : Int) :: d) hx
        have h3 : (Uw02Neutral.listIn (((d.length : Int)).toNat :: d.map Int.toNat)).map (fun r => Uw02.Call.player z.toNat r) = some x := h2
        rw [Option.map_eq_some_iff] at h3
        obtain ⟨y, hy, rfl⟩ := h3
        obtain ⟨rfl, _, h5⟩ := listIn_is hy
        rw [List.all_cons, List.all_cons, List.all_cons, Bool.and_eq_true, Bool.and_eq_true, Bool.and_eq_true] at h1
        have hb := nat_back h1.2.2.2
        have hz := nat_back (l := [z]) (by rw [List.all_cons, h1.2.1]; rfl)
        have hz : ((z.toNat : Nat) : Int) = z := (List.cons.inj hz).1
        refine ⟨?_, h5⟩
        show 2 :: z :: s = 2 :: ((z.toNat : Nat) : Int) :: (((d.map Int.toNat).length : Nat) : Int) :: toI (d.map Int.toNat) ++ t
        rw [hb, List.length_map, hz]
        exact congrArg (fun q => (2 : Int) :: z :: q) hd
      rw [if_neg e2] at hs
      by_cases e3 : p = 3
      · subst e3
        rw [if_pos rfl] at hs
        obtain ⟨rfl, rfl⟩ := Prod.mk.inj (Option.some.inj hs)
        obtain ⟨rfl, rfl⟩ := rows_zero hr
        have h2 : some Uw02.Call.clashes = some x := (callOf_some (l := [3]) hx).2
        obtain rfl := Option.some.inj h2
        exact ⟨rfl, trivial⟩
      rw [if_neg e3] at hs
      by_cases e4 : p = 4
      · subst e4
        rw [if_pos rfl] at hs
        obtain ⟨rfl, rfl⟩ := Prod.mk.inj (Option.some.inj hs)
        obtain ⟨rfl, rfl⟩ := rows_zero hr
        have h2 : some Uw02.Call.cheapest = some x := (callOf_some (l := [4]) hx).2
        obtain rfl := Option.some.inj h2
        exact ⟨rfl, trivial⟩
      rw [if_neg e4] at hs
      by_cases e5 : p = 5
      · subst e5
        rw [if_pos rfl] at hs
        obtain ⟨rfl, rfl⟩ := Prod.mk.inj (Option.some.inj hs)
        obtain ⟨rfl, rfl⟩ := rows_zero hr
        have h2 : some Uw02.Call.fewest = some x := (callOf_some (l := [5]) hx).2
        obtain rfl := Option.some.inj h2
        exact ⟨rfl, trivial⟩
      rw [if_neg e5] at hs
      by_cases e6 : p = 6
      · subst e6
        rw [if_pos rfl] at hs
        obtain ⟨rfl, rfl⟩ := Prod.mk.inj (Option.some.inj hs)
        obtain ⟨d, rfl, hd⟩ := rows_one hr
        obtain ⟨h1, h2⟩ := callOf_some (l := 6 :: (d.length : Int) :: d) hx
        have h3 : (Uw02Neutral.listIn (((d.length : Int)).toNat :: d.map Int.toNat)).map Uw02.Call.check = some x := h2
        rw [Option.map_eq_some_iff] at h3
        obtain ⟨y, hy, rfl⟩ := h3
        obtain ⟨rfl, _, h5⟩ := listIn_is hy
        rw [List.all_cons, List.all_cons, Bool.and_eq_true, Bool.and_eq_true] at h1
        have hb := nat_back h1.2.2
        refine ⟨?_, h5⟩
        show 6 :: r = 6 :: (((d.map Int.toNat).length : Nat) : Int) :: toI (d.map Int.toNat) ++ t
        rw [hb, List.length_map]
        exact congrArg _ hd
      rw [if_neg e6] at hs
      by_cases e7 : p = 7
      · subst e7
        rw [if_pos rfl] at hs
        obtain ⟨rfl, rfl⟩ := Prod.mk.inj (Option.some.inj hs)
        obtain ⟨z, s, rfl⟩ := one_cons hn
        obtain ⟨rfl, rfl⟩ := rows_zero hr
        obtain ⟨h1, h2⟩ := callOf_some (l := [7, z]) hx
        have h2 : some (Uw02.Call.ill z.toNat) = some x := h2
        obtain rfl := Option.some.inj h2
        rw [List.all_cons, Bool.and_eq_true] at h1
        have hz : ((z.toNat : Nat) : Int) = z := (List.cons.inj (nat_back h1.2)).1
        refine ⟨?_, trivial⟩
        show 7 :: z :: t = 7 :: ((z.toNat : Nat) : Int) :: t
        rw [hz]
      rw [if_neg e7] at hs
      cases hs
theorem parse_all : ∀ (f : Nat) (l : List Int) (raw : List (List (List Int))), PyFlat.calls PyUw02.shape f l = some raw → (∀ c ∈ raw, (key c).isSome = true) → ∃ cs : List Uw02.Call, l = cs.flatMap encC ∧ raw.map key = cs.map some ∧ ∀ x ∈ cs, Small x
  | f, [], raw, h, _ => by
    have e : some [] = some raw := by
      cases f <;> exact h
    obtain rfl := Option.some.inj e
    exact ⟨[], rfl, rfl, fun x hx => by simp at hx⟩
  | 0, _ :: _, raw, h, _ => by cases h
  | f + 1, p :: r, raw, h, hk => by
    have h : (match PyFlat.call PyUw02.shape (p :: r) with
      | none => none
      | some (c, t) => match PyFlat.calls PyUw02.shape f t with
        | none => none
        | some cs => some (c :: cs)) = some raw := h
    cases e : PyFlat.call PyUw02.shape (p :: r) with
    | none => rw [e] at h; cases h
    | some y =>
      obtain ⟨c, t⟩ := y
      simp only [e] at h
      cases e2 : PyFlat.calls PyUw02.shape f t with
      | none => rw [e2] at h; cases h
      | some cs' =>
        simp only [e2] at h
        obtain rfl := Option.some.inj h
        obtain ⟨x, hx⟩ := Option.isSome_iff_exists.mp (hk c (List.mem_cons_self ..))
        obtain ⟨h1, h2⟩ := parse_one e hx
        obtain ⟨cs, g1, g2, g3⟩ := parse_all f t cs' e2 fun d hd => hk d (List.mem_cons_of_mem _ hd)
        refine ⟨x :: cs, ?_, ?_, fun z hz => ?_⟩
        · rw [h1, List.flatMap_cons, ← g1]
        · rw [List.map_cons, List.map_cons, hx, g2]
        · rcases List.mem_cons.mp hz with q | q
          · rw [q]; exact h2
          · exact g3 z q
theorem played_runs : ∀ (raw : List (List (List Int))) (cs : List Uw02.Call) (p : Play), raw.map key = cs.map some →
    PyFlat.played (fun s c => Uw02Neutral.step s (c.headD [])) p (raw.map PyUw02.whole) = runs p cs ∧ Uw02Neutral.many p ((raw.map PyUw02.whole).map fun c => c.headD []) = sizes (runs p cs)
  | [], [], _, _ => ⟨rfl, rfl⟩
  | [], _ :: _, _, h => by cases h
  | _ :: _, [], _, h => by cases h
  | c :: raw, x :: cs, p, h => by
    rw [List.map_cons, List.map_cons] at h
    obtain ⟨h1, h2⟩ := List.cons.inj h
    have e : Uw02Neutral.step p ((PyUw02.whole c).headD []) = ((step p x).1, Uw02Neutral.out (step p x).2) := by
      unfold Uw02Neutral.step
      rw [show Uw02Neutral.callOf ((PyUw02.whole c).headD []) = some x from h1]
    obtain ⟨i1, i2⟩ := played_runs raw cs (step p x).1 h2
    constructor
    · show (Uw02Neutral.step p ((PyUw02.whole c).headD [])).2 :: PyFlat.played _ (Uw02Neutral.step p ((PyUw02.whole c).headD [])).1 (raw.map PyUw02.whole) = _
      rw [e]
      exact congrArg _ i1
    · show (Uw02Neutral.step p ((PyUw02.whole c).headD [])).2.length + Uw02Neutral.many (Uw02Neutral.step p ((PyUw02.whole c).headD [])).1 _ = _
      rw [e]
      show _ + Uw02Neutral.many (step p x).1 _ = _ + sizes (runs (step p x).1 cs)
      rw [i2]
/-- what is asked, and what is due -/
theorem asked_is {l : List Int} (h : PyUw02.answers_asked l = true) : ∃ cs : List Uw02.Call, l = cs.flatMap encC ∧ cs.length ≤ 40 ∧ (∀ x ∈ cs, Small x) ∧ PyUw02.answers l = told (runs init cs) ∧ sizes (runs init cs) ≤ 1000000 := by
  unfold PyUw02.answers_asked at h
  cases e : PyFlat.calls PyUw02.shape l.length l with
  | none => rw [e] at h; cases h
  | some raw =>
    simp only [e, Bool.and_eq_true] at h
    obtain ⟨⟨⟨⟨_, h1⟩, _⟩, h2⟩, _⟩ := h
    unfold Uw02Neutral.asked at h2
    rw [Bool.and_eq_true, Bool.and_eq_true, Bool.and_eq_true] at h2
    obtain ⟨k1, _, _, k2⟩ := h2
    obtain ⟨cs, g1, g2, g3⟩ := parse_all _ _ _ e fun c hc => by
      rw [List.all_eq_true] at k1
      exact k1 ((PyUw02.whole c).headD []) (List.mem_map.mpr ⟨_, List.mem_map.mpr ⟨c, hc, rfl⟩, rfl⟩)
    have hl : raw.length = cs.length := by
      have := congrArg List.length g2
      simpa using this
    obtain ⟨j1, j2⟩ := played_runs raw cs init g2
    refine ⟨cs, g1, by rw [← hl]; exact of_decide_eq_true h1, g3, ?_, ?_⟩
    · unfold PyUw02.answers PyUw02.calls
      simp only [e]
      show PyFlat.told (PyFlat.played _ init (raw.map PyUw02.whole)) = _
      rw [j1]
      rfl
    · rw [← j2]
      exact of_decide_eq_true k2
/-- the places at which the calls begin -/
def places : Nat → List Uw02.Call → List Nat
  | _, [] => []
  | k, c :: r => k :: places (k + (encC c).length) r
theorem places_len : ∀ (k : Nat) (cs : List Uw02.Call), (places k cs).length = cs.length
  | _, [] => rfl
  | k, c :: r => by
    show (places _ r).length + 1 = r.length + 1
    rw [places_len]
theorem places_get : ∀ {cs : List Uw02.Call} {k i : Nat} {c : Uw02.Call}, cs[i]? = some c → (places k cs)[i]? = some (k + ((cs.take i).flatMap encC).length)
  | [], _, _, _, h => by simp at h
  | c :: r, k, 0, x, h => by
    show some k = some _
    simp
  | c :: r, k, i + 1, x, h => by
    show (places (k + (encC c).length) r)[i]? = _
    rw [places_get (cs := r) (c := x) h, List.take_succ_cons, List.flatMap_cons, List.length_append]
    congr 1
    omega
theorem split_at {cs : List Uw02.Call} {i : Nat} {c : Uw02.Call} (h : cs[i]? = some c) : cs.flatMap encC = (cs.take i).flatMap encC ++ (encC c ++ (cs.drop (i + 1)).flatMap encC) := by
  have hi := (List.getElem?_eq_some_iff.mp h)
  obtain ⟨hi, e⟩ := hi
  have e2 : cs = cs.take i ++ (c :: cs.drop (i + 1)) := by
    rw [← e, ← List.drop_eq_getElem_cons hi, List.take_append_drop]
  conv => lhs; rw [e2]
  rw [List.flatMap_append, List.flatMap_cons]
/-- the play behind some calls -/
def after (p : Play) (cs : List Uw02.Call) : Play := cs.foldl (fun q c => (step q c).1) p
theorem after_more {p : Play} {cs : List Uw02.Call} {i : Nat} {c : Uw02.Call} (h : cs[i]? = some c) : after p (cs.take (i + 1)) = (step (after p (cs.take i)) c).1 := by
  unfold after
  rw [take_more h, List.foldl_append]
  rfl
theorem runs_app : ∀ (p : Play) (a b : List Uw02.Call), runs p (a ++ b) = runs p a ++ runs (after p a) b
  | _, [], _ => rfl
  | p, c :: a, b => by
    show _ :: runs (step p c).1 (a ++ b) = _ :: (runs (step p c).1 a ++ runs (after (step p c).1 a) b)
    rw [runs_app]
theorem runs_more {p : Play} {cs : List Uw02.Call} {i : Nat} {c : Uw02.Call} (h : cs[i]? = some c) : runs p (cs.take (i + 1)) = runs p (cs.take i) ++ [Uw02Neutral.out (step (after p (cs.take i)) c).2] := by
  rw [take_more h, runs_app]
  rfl
theorem told_app (a b : List (List Int)) : told (a ++ b) = told a ++ told b := by
  unfold told
  rw [List.flatMap_append]
theorem sizes_app : ∀ (a b : List (List Int)), sizes (a ++ b) = sizes a + sizes b
  | [], b => by simp [sizes]
  | x :: a, b => by
    show x.length + sizes (a ++ b) = x.length + sizes a + sizes b
    rw [sizes_app a b]
    omega
theorem told_len : ∀ (l : List (List Int)), (told l).length = sizes l + l.length
  | [] => rfl
  | x :: l => by
    have := told_len l
    unfold told at this ⊢
    rw [List.flatMap_cons, List.length_append, this, List.length_cons, List.length_cons]
    show _ = x.length + sizes l + _
    omega
theorem runs_len : ∀ (p : Play) (cs : List Uw02.Call), (runs p cs).length = cs.length
  | _, [] => rfl
  | p, c :: r => by
    show (runs _ r).length + 1 = r.length + 1
    rw [runs_len]
theorem runs_bound {p : Play} {cs : List Uw02.Call} (h : sizes (runs p cs) ≤ 1000000) (hc : cs.length ≤ 40) (i : Nat) : (told (runs p (cs.take i))).length ≤ 1000040 := by
  have e : runs p cs = runs p (cs.take i) ++ runs (after p (cs.take i)) (cs.drop i) := by
    rw [← runs_app, List.take_append_drop]
  rw [e, sizes_app] at h
  rw [told_len, runs_len, List.length_take]
  have := Nat.min_le_right i cs.length
  omega
theorem good_step {p : Play} (g : Good p) (c : Uw02.Call) : Good (step p c).1 := by
  cases c with
  | begins d =>
    rw [step_begins]
    by_cases h : begRef d < 0
    · rw [if_pos h]; exact g
    · rw [if_neg h]; exact good_begins h
  | scene n r =>
    rw [step_scene]
    by_cases h : sceneRef p n r < 0
    · rw [if_pos h]; exact g
    · rw [if_neg h]; exact good_scene g h
  | player w f =>
    rw [step_player]
    by_cases h : playerRef p w f < 0
    · rw [if_pos h]; exact g
    · rw [if_neg h]; exact good_player g h
  | clashes => rw [step_clashes]; exact g
  | cheapest => rw [step_cheapest]; exact g
  | fewest => rw [step_fewest]; exact g
  | check c => rw [step_check]; exact g
  | ill a => rw [step_ill]; exact g
theorem good_after {cs : List Uw02.Call} : ∀ {p : Play}, Good p → Good (after p cs) := by
  induction cs with
  | nil => exact fun g => g
  | cons c r ih => exact fun g => ih (good_step g c)
end RD
/-! The heap: how a play lies in it; short words for the promises. -/
namespace RD
open PySem PySem.Spec PyProof.Rows L2
open PySem.W (Codec)
/-- the i-th statement of the program -/
def top (i : Nat) : Stmt := PySem.Challenge.pw_rolesdoubled_s01_answers.main.body.getD i (.Pass ⟨0, 0, 0, 0⟩)
abbrev nv (n : Nat) : V := .int (n : Int)
/-- a list of whole numbers from 0 -/
def NL (H : Hp) (a : Addr) (xs : List Nat) : Prop := H a = some (.lst (xs.map nv))
/-- a list of whole numbers -/
def IL (H : Hp) (a : Addr) (xs : List Int) : Prop := H a = some (.lst (xs.map V.int))
/-- a list of such lists, at as -/
structure LLs (H : Hp) (a : Addr) (as : List Addr) (xss : List (List Nat)) : Prop where
  lst : H a = some (.lst (as.map V.ref))
  len : as.length = xss.length
  row : ∀ (i : Nat) (x : List Nat), xss[i]? = some x → ∃ r, as[i]? = some r ∧ NL H r x
def LL (H : Hp) (a : Addr) (xss : List (List Nat)) : Prop := ∃ as, LLs H a as xss
theorem NL.same {H H' : Hp} {a : Addr} {xs : List Nat} (s : Same H H') (h : NL H a xs) : NL H' a xs := s _ _ h
theorem IL.same {H H' : Hp} {a : Addr} {xs : List Int} (s : Same H H') (h : IL H a xs) : IL H' a xs := s _ _ h
theorem LLs.same {H H' : Hp} {a : Addr} {as : List Addr} {xss : List (List Nat)} (s : Same H H') (h : LLs H a as xss) : LLs H' a as xss :=
  ⟨s _ _ h.lst, h.len, fun i x e => let ⟨r, h1, h2⟩ := h.row i x e; ⟨r, h1, h2.same s⟩⟩
theorem LL.same {H H' : Hp} {a : Addr} {xss : List (List Nat)} (s : Same H H') (h : LL H a xss) : LL H' a xss := let ⟨as, h⟩ := h; ⟨as, h.same s⟩
theorem ints_map (l : List Nat) : (toI l).map V.int = l.map nv := by
  unfold toI
  rw [List.map_map]
  rfl
theorem IL.of {H : Hp} {a : Addr} {xs : List Nat} (h : NL H a xs) : IL H a (toI xs) := by
  unfold IL
  rw [ints_map]
  exact h
/-- one row more -/
theorem LLs.more {H : Hp} {a r : Addr} {as : List Addr} {xss : List (List Nat)} {x : List Nat} (h : LLs H a as xss) (hr : NL H r x) (n : ∀ y ∈ as, y ≠ a) (hra : r ≠ a) : LLs (upd H a (.lst (as.map V.ref ++ [V.ref r]))) a (as ++ [r]) (xss ++ [x]) := by
  refine ⟨by rw [upd_same, List.map_append] <;> rfl, by rw [List.length_append, List.length_append, h.len] <;> rfl, fun i y e => ?_⟩
  by_cases hi : i < xss.length
  · rw [List.getElem?_append_left hi] at e
    obtain ⟨q, h1, h2⟩ := h.row i y e
    refine ⟨q, ?_, ?_⟩
    · rw [List.getElem?_append_left (by rw [h.len]; exact hi)]
      exact h1
    · unfold NL
      rw [upd_ne (n q (List.mem_of_getElem? h1))]
      exact h2
  · have hl : i = xss.length := by
      have := (List.getElem?_eq_some_iff.mp e).1
      rw [List.length_append] at this
      have z : ([x] : List (List Nat)).length = 1 := rfl
      omega
    subst hl
    rw [List.getElem?_concat_length] at e
    obtain rfl := Option.some.inj e
    refine ⟨r, by rw [← h.len]; exact List.getElem?_concat_length, ?_⟩
    unfold NL
    rw [upd_ne hra]
    exact hr
/-- one row grows -/
theorem LLs.grow {H : Hp} {a y : Addr} {as : List Addr} {xss : List (List Nat)} {old x : List Nat} {b : Nat} (h : LLs H a as xss) (hb : as[b]? = some y) (hn : as.Nodup) (na : ∀ z ∈ as, z ≠ a) (hx : xss[b]? = some old) : LLs (upd H y (.lst (x.map nv))) a as (xss.set b x) := by
  refine ⟨by rw [upd_ne (fun e => na y (List.mem_of_getElem? hb) e.symm)]; exact h.lst, by rw [List.length_set]; exact h.len, fun i z e => ?_⟩
  by_cases hi : i = b
  · subst hi
    rw [List.getElem?_set_self (List.getElem?_eq_some_iff.mp hx).1] at e
    obtain rfl := Option.some.inj e
    exact ⟨y, hb, upd_same⟩
  · rw [List.getElem?_set_ne (fun q => hi q.symm)] at e
    obtain ⟨r, h1, h2⟩ := h.row i z e
    refine ⟨r, h1, ?_⟩
    unfold NL
    rw [upd_ne (fun q => hi (nd_ix hn h1 (by rw [q]; exact hb)))]
    exact h2
theorem LLs.off {H : Hp} {a y : Addr} {as : List Addr} {xss : List (List Nat)} {o : HO} (h : LLs H a as xss) (ha : a ≠ y) (hn : ∀ z ∈ as, z ≠ y) : LLs (upd H y o) a as xss := by
  refine ⟨by rw [upd_ne ha]; exact h.lst, h.len, fun i z e => ?_⟩
  obtain ⟨r, h1, h2⟩ := h.row i z e
  refine ⟨r, h1, ?_⟩
  unfold NL
  rw [upd_ne (hn r (List.mem_of_getElem? h1))]
  exact h2
theorem LLs.get {H : Hp} {a : Addr} {as : List Addr} {xss : List (List Nat)} (h : LLs H a as xss) {i : Nat} {r : Addr} (e : as[i]? = some r) : ∃ x, xss[i]? = some x ∧ NL H r x := by
  have hi := (List.getElem?_eq_some_iff.mp e).1
  rw [h.len] at hi
  obtain ⟨x, hx⟩ : ∃ x, xss[i]? = some x := ⟨_, List.getElem?_eq_getElem hi⟩
  obtain ⟨q, h1, h2⟩ := h.row i x hx
  rw [e] at h1
  obtain rfl := Option.some.inj h1
  exact ⟨x, hx, h2⟩
theorem at_nat {xs : List Nat} {j v : Nat} (h : xs[j]? = some v) : atI (xs.map nv) (j : Int) = some (nv v) := at_of rfl (by rw [List.getElem?_map, h] <;> rfl)
theorem at_ref {as : List Addr} {j : Nat} {r : Addr} (h : as[j]? = some r) : atI (as.map V.ref) (j : Int) = some (V.ref r) := at_of rfl (by rw [List.getElem?_map, h] <;> rfl)
theorem at_int {xs : List Int} {j : Nat} {v : Int} (h : xs[j]? = some v) : atI (xs.map V.int) (j : Int) = some (V.int v) := at_of rfl (by rw [List.getElem?_map, h] <;> rfl)
theorem get_lt {α : Type} {l : List α} {i : Nat} (h : i < l.length) : ∃ x, l[i]? = some x := ⟨_, List.getElem?_eq_getElem h⟩
theorem getD_of {l : List Nat} {i : Nat} {x : Nat} (h : l[i]? = some x) : l.getD i 0 = x := by rw [List.getD_eq_getElem?_getD, h] <;> rfl
theorem get_of_lt {l : List Nat} {i : Nat} (h : i < l.length) : l[i]? = some (l.getD i 0) := by
  obtain ⟨x, hx⟩ := get_lt h
  rw [getD_of hx, hx]
theorem flat_nv (xs : List Nat) : (xs.map nv).all flatV = true := by
  rw [List.all_eq_true]
  intro v hv
  rw [List.mem_map] at hv
  obtain ⟨x, _, rfl⟩ := hv
  rfl
theorem inV_nv (x : Nat) (xs : List Nat) : inV (nv x) (xs.map nv) = xs.contains x := by
  unfold inV
  rw [List.any_map, Bool.eq_iff_iff, List.any_eq_true, List.contains_iff_mem]
  constructor
  · rintro ⟨y, hy, e⟩
    have e : ((y : Int) == (x : Int)) = true := e
    have e : (y : Int) = (x : Int) := eq_of_beq e
    have e : y = x := by omega
    rw [← e]
    exact hy
  · intro h
    exact ⟨x, h, by show ((x : Int) == (x : Int)) = true; exact beq_self_eq_true _⟩
theorem line_nat {n : Nat} (h : n ≤ 16000000) : n < sizeLine := Nat.lt_of_le_of_lt h (by decide)
theorem line_le {n : Nat} (h : n ≤ 16000000) : n ≤ sizeLine := Nat.le_of_lt (line_nat h)

theorem ift {c : Bool} {A B : Prop} (hc : c = true) (h : A) : if c = true then A else B := by
  rw [if_pos hc]
  exact h
theorem ifn {c : Bool} {A B : Prop} (hc : c = false) (h : B) : if c = true then A else B := by
  rw [hc, if_neg Bool.false_ne_true]
  exact h
theorem nv_inj {a b : Nat} (h : nv a = nv b) : a = b := by
  have := V.int.inj h
  omega

/-! ### heaps -/
theorem sUpd {H H' : Hp} {p : Addr} {o : HO} (s : Same H H') (h : H p = none) : Same H (L2.upd H' p o) := fun b u e => by
  rw [upd_ne (ne_of_none e h)]
  exact s b u e
theorem sNew {H : Hp} {p : Addr} {o : HO} (h : H p = none) : Same H (L2.upd H p o) := sUpd (Same.refl H) h

/-! ### a play -/
def encF (o : Option Nat) : Nat := match o with
  | none => 0
  | some x => x + 1
def fRow (x : Uw02.Player) : List Nat := x.fees.map encF
def pF (d l o w f : Addr) : List (Str × V) := [("dress", .ref d), ("lasts", .ref l), ("onstage", .ref o), ("wages", .ref w), ("fees", .ref f)]
theorem lk_here {k : Str} {v : V} {r : List (Str × V)} : List.lookup k ((k, v) :: r) = some v := by
  have e : (k == k) = true := beq_self_eq_true k
  simp only [List.lookup, e]
theorem lk_past {k g : Str} {v : V} {r : List (Str × V)} (h : (k == g) = false) : List.lookup k ((g, v) :: r) = List.lookup k r := by
  simp only [List.lookup, h]
theorem put_here {f : Str} {v x : V} {r : List (Str × V)} : putF f v ((f, x) :: r) = (f, v) :: r := if_pos rfl
theorem put_past {f g : Str} {v x : V} {r : List (Str × V)} (h : ¬ g = f) : putF f v ((g, x) :: r) = (g, x) :: putF f v r := if_neg h
section
variable (d l o w f d' l' o' w' f' : Addr)
theorem pF_dress : (pF d l o w f).lookup ("dress" : Str) = some (.ref d) := lk_here
theorem pF_lasts : (pF d l o w f).lookup ("lasts" : Str) = some (.ref l) := (lk_past (by decide +kernel)).trans lk_here
theorem pF_onstage : (pF d l o w f).lookup ("onstage" : Str) = some (.ref o) := (lk_past (by decide +kernel)).trans ((lk_past (by decide +kernel)).trans lk_here)
theorem pF_wages : (pF d l o w f).lookup ("wages" : Str) = some (.ref w) := (lk_past (by decide +kernel)).trans ((lk_past (by decide +kernel)).trans ((lk_past (by decide +kernel)).trans lk_here))
theorem pF_fees : (pF d l o w f).lookup ("fees" : Str) = some (.ref f) := (lk_past (by decide +kernel)).trans ((lk_past (by decide +kernel)).trans ((lk_past (by decide +kernel)).trans ((lk_past (by decide +kernel)).trans lk_here)))
theorem pF_no {m : Str} (h1 : (m == "dress") = false) (h2 : (m == "lasts") = false) (h3 : (m == "onstage") = false) (h4 : (m == "wages") = false) (h5 : (m == "fees") = false) : (pF d l o w f).lookup m = none :=
  (lk_past h1).trans ((lk_past h2).trans ((lk_past h3).trans ((lk_past h4).trans ((lk_past h5).trans rfl))))
theorem put_dress : putF "dress" (.ref d') (pF d l o w f) = pF d' l o w f := put_here
theorem put_lasts : putF "lasts" (.ref l') (pF d l o w f) = pF d l' o w f := (put_past (by decide +kernel)).trans (congrArg _ put_here)
theorem put_onstage : putF "onstage" (.ref o') (pF d l o w f) = pF d l o' w f := (put_past (by decide +kernel)).trans (congrArg _ ((put_past (by decide +kernel)).trans (congrArg _ put_here)))
theorem put_wages : putF "wages" (.ref w') (pF d l o w f) = pF d l o w' f := (put_past (by decide +kernel)).trans (congrArg _ ((put_past (by decide +kernel)).trans (congrArg _ ((put_past (by decide +kernel)).trans (congrArg _ put_here)))))
theorem put_fees : putF "fees" (.ref f') (pF d l o w f) = pF d l o w f' := (put_past (by decide +kernel)).trans (congrArg _ ((put_past (by decide +kernel)).trans (congrArg _ ((put_past (by decide +kernel)).trans (congrArg _ ((put_past (by decide +kernel)).trans (congrArg _ put_here)))))))
theorem put_new : putF "fees" (.ref f) (putF "wages" (.ref w) (putF "onstage" (.ref o) (putF "lasts" (.ref l) (putF "dress" (.ref d) [])))) = pF d l o w f := by
  have e1 : putF "lasts" (.ref l) ([("dress", V.ref d)] : List (Str × V)) = ([("dress", V.ref d), ("lasts", V.ref l)] : List (Str × V)) := (put_past (by decide +kernel)).trans rfl
  have e2 : putF "onstage" (.ref o) ([("dress", V.ref d), ("lasts", V.ref l)] : List (Str × V)) = ([("dress", V.ref d), ("lasts", V.ref l), ("onstage", V.ref o)] : List (Str × V)) := (put_past (by decide +kernel)).trans (congrArg _ ((put_past (by decide +kernel)).trans rfl))
  have e3 : putF "wages" (.ref w) ([("dress", V.ref d), ("lasts", V.ref l), ("onstage", V.ref o)] : List (Str × V)) = ([("dress", V.ref d), ("lasts", V.ref l), ("onstage", V.ref o), ("wages", V.ref w)] : List (Str × V)) := (put_past (by decide +kernel)).trans (congrArg _ ((put_past (by decide +kernel)).trans (congrArg _ ((put_past (by decide +kernel)).trans rfl))))
  have e4 : putF "fees" (.ref f) ([("dress", V.ref d), ("lasts", V.ref l), ("onstage", V.ref o), ("wages", V.ref w)] : List (Str × V)) = pF d l o w f := (put_past (by decide +kernel)).trans (congrArg _ ((put_past (by decide +kernel)).trans (congrArg _ ((put_past (by decide +kernel)).trans (congrArg _ ((put_past (by decide +kernel)).trans rfl))))))
  show putF "fees" (.ref f) (putF "wages" (.ref w) (putF "onstage" (.ref o) (putF "lasts" (.ref l) ([("dress", V.ref d)] : List (Str × V))))) = _
  rw [e1, e2, e3, e4]
end
/-- what a change of the play may touch -/
structure Fp where
  a : Addr
  d : Addr
  l : Addr
  o : Addr
  w : Addr
  f : Addr
/-- the play p at a: its object, its five lists; what is changed in place stands apart -/
structure PlayAt (C : Addr) (H : Hp) (a d l o w f : Addr) (p : Uw02.Play) : Prop where
  obj : ∃ dx, H a = some (.ins C dx (pF d l o w f))
  dr : NL H d p.dress
  la : NL H l (p.scenes.map fun s => s.long)
  on : ∃ as, LLs H o as (p.scenes.map fun s => s.roles) ∧ ∀ r ∈ as, r ≠ l ∧ r ≠ o ∧ r ≠ w ∧ r ≠ f
  wa : NL H w (p.players.map fun x => x.wage)
  fe : ∃ as, LLs H f as (p.players.map fRow) ∧ ∀ r ∈ as, r ≠ l ∧ r ≠ o ∧ r ≠ w ∧ r ≠ f
  nd : [d, l, o, w, f].Nodup
theorem PlayAt.same {C : Addr} {H H' : Hp} {a d l o w f : Addr} {p : Uw02.Play} (s : Same H H') (h : PlayAt C H a d l o w f p) : PlayAt C H' a d l o w f p := by
  obtain ⟨⟨dx, h1⟩, h2, h3, ⟨as, h4, h4'⟩, h5, ⟨bs, h6, h6'⟩, h7⟩ := h
  exact ⟨⟨dx, s _ _ h1⟩, h2.same s, h3.same s, ⟨as, h4.same s, h4'⟩, h5.same s, ⟨bs, h6.same s, h6'⟩, h7⟩
/-- the play p at a, to be read -/
def PR (C : Addr) (H : Hp) (a : Addr) (p : Uw02.Play) : Prop := ∃ d l o w f, PlayAt C H a d l o w f p
theorem PR.same {C : Addr} {H H' : Hp} {a : Addr} {p : Uw02.Play} (s : Same H H') (h : PR C H a p) : PR C H' a p := let ⟨d, l, o, w, f, h⟩ := h; ⟨d, l, o, w, f, h.same s⟩

/-! ### what the top has written; a def that keeps its promise -/
structure Txt (K : PySem.W.Frag) (mg : Str → Option Value) (C : Addr) : Prop where
  cl : Cls K C
  nD : NoAttr K C "dress"
  nL : NoAttr K C "lasts"
  nO : NoAttr K C "onstage"
  nW : NoAttr K C "wages"
  nF : NoAttr K C "fees"
  gC : mg "Play" = some (.ref C)
  len : mg "len" = none
  range : mg "range" = none
  list : mg "list" = none
  min : mg "min" = none
/-- the def called x keeps the promise sp, at a level k -/
def DefOk (P : Program) (w : World) (K : PySem.W.Frag) (mg : Str → Option Value) (base : Heap) (x : Str) (k : Nat) (ps : List Str) (sp : Sp) : Prop :=
  ∃ f fd, mg x = some (.ref f) ∧ PySem.W.keepIn K (.ref f) = true ∧ Binds K fd ps [] ∧ FnOk P w K mg base CX0 k f fd ps sp
theorem pe_def {X : Cx} {k : Nat} {ps : List Str} {sp : Sp} {x : Str} {p pos : Pos} {e : Expr} {es : List Expr} {t : TA} (D : DefOk X.prog X.w X.K X.mg X.base x k ps sp) (hr : Room k X.A) (hg : Gl X x)
    (ha : PA X (e :: es) t) (hdb : (x == ("__debug__" : Str)) = false := by decide) (he : starEach (e :: es) X.env = (false, eval e X.env) :: starEach es X.env := by rfl) (hpl : (backTo pos (starEach es X.env)).any (·.1) = false := by rfl) :
    PE X (.Call (.Name x p) (e :: es) [] pos) (tCall sp [] E0 t) := by
  obtain ⟨f, fd, h1, h2, h3, h4⟩ := D
  exact pe_call h4 hr hg h1 h2 h3 .nil pass0 ha hdb he hpl
/-- what a def hands back -/
def RetV (H : Hp) (Q : VK) (v : V) : Prop := ∀ H', Same H H' → Q v H'
def RetNL (H : Hp) (Q : VK) (xs : List Nat) : Prop := ∀ H' r, Same H H' → H r = none → NL H' r xs → Q (.ref r) H'
def RetIL (H : Hp) (Q : VK) (xs : List Int) : Prop := ∀ H' r, Same H H' → H r = none → IL H' r xs → Q (.ref r) H'
def RetLL (H : Hp) (Q : VK) (xss : List (List Nat)) : Prop := ∀ H' r, Same H H' → H r = none → LL H' r xss → Q (.ref r) H'
def RetLLf (H : Hp) (Q : VK) (xss : List (List Nat)) : Prop := ∀ H' r as, Same H H' → H r = none → LLs H' r as xss → (∀ y ∈ as, H y = none) → Q (.ref r) H'
theorem RetV.from {H H1 : Hp} {Q : VK} {v : V} (s : Same H H1) (k : RetV H Q v) : RetV H1 Q v := fun H' s' => k H' (s.trans s')
theorem RetNL.from {H H1 : Hp} {Q : VK} {xs : List Nat} (s : Same H H1) (k : RetNL H Q xs) : RetNL H1 Q xs := fun H' r s' n h => k H' r (s.trans s') (s.free n) h
theorem RetIL.from {H H1 : Hp} {Q : VK} {xs : List Int} (s : Same H H1) (k : RetIL H Q xs) : RetIL H1 Q xs := fun H' r s' n h => k H' r (s.trans s') (s.free n) h
theorem RetLL.from {H H1 : Hp} {Q : VK} {xss : List (List Nat)} (s : Same H H1) (k : RetLL H Q xss) : RetLL H1 Q xss := fun H' r s' n h => k H' r (s.trans s') (s.free n) h
end RD
namespace RD
open PySem PySem.Spec PyProof.Rows L2
section
variable {P : Program} {w : World} {K : PySem.W.Frag} {mg : Str → Option Value} {base : Heap} {C : Addr}
/-! ### minutes_between -/
abbrev sMB : Stmt := top 3
theorem scMB : FnScope ["lasts", "early", "late", "total", "scene"] ["lasts", "early", "late"] (defScope sMB) := ⟨rfl, rfl, rfl, by decide +kernel, rfl, by decide +kernel, by decide +kernel⟩
def spMB : Sp := fun vs H Q _ => ∃ (a : Addr) (ls : List Nat) (i j : Nat), vs = [.ref a, nv i, nv j] ∧ NL H a ls ∧ i ≤ 1000 ∧ j ≤ ls.length ∧ ls.length ≤ 1000 ∧ RetV H Q (nv (Uw02.total ((ls.drop (i + 1)).take (j - (i + 1)))))
theorem ok_MB {f : Addr} {fd : FuncData} (F : Fun K "minutes_between" "minutes_between" sMB f fd) (T : Txt K mg C) : FnOk P w K mg base CX0 1 f fd ["lasts", "early", "late"] spMB := by
  refine F.ok scMB (fun vs H Q E h => ?_) (fun cdv A outer s H vs Q E hr h => ?_)
  · obtain ⟨a, ls, i, j, rfl, _⟩ := h
    rfl
  · obtain ⟨a, ls, i, j, rfl, hl, hi, hj, hz, k⟩ := h
    refine ⟨_, pss_cons (ps_set (i := 3) scMB.nd rfl (Or.inl rfl) pe_int)
      (pss_cons (ps_for PassesOwn.never rfl (pi_range2 (by rfl) T.range (pa_cons (pe_op op_add (pv 1) pe_int) (pa_cons (pv 2) pa_nil))) (pg_name (i := 4) scMB.nd rfl (Or.inl rfl))
        (pss_one (ps_set (i := 3) scMB.nd rfl (Or.inl rfl) (pe_op op_add (pv 3) (pe_ix ix_list (pv 0) (pv 4) (fun _ _ => rfl))))))
      (pss_one (ps_ret (pv 3)))), ?_⟩
    have en : ((j : Int) - ((i : Int) + 1)).toNat = j - (i + 1) := by omega
    refine ⟨_, rfl, _, _, rfl, rfl, _, rfl, _, _, rfl, ⟨by omega, by omega, by omega, by omega⟩, for_range (lo := (i : Int) + 1) (n := ((j : Int) - ((i : Int) + 1)).toNat) (fun t σ H' => ∃ v : Option V, σ = [some (.ref a), some (nv i), some (nv j), some (nv (Uw02.total ((ls.drop (i + 1)).take t))), v] ∧ H' = H)
      ⟨none, rfl, rfl⟩ ?_ ?_⟩
    · rintro t σ H' ht ⟨v, rfl, rfl⟩
      rw [en] at ht
      obtain ⟨x, hx⟩ := get_lt (l := ls) (i := i + 1 + t) (by omega)
      have hx2 : (ls.drop (i + 1))[t]? = some x := by rw [List.getElem?_drop]; exact hx
      refine ⟨_, rfl, _, rfl, _, rfl, _, _, _, _, rfl, rfl, SqL.of hl, at_of (j := i + 1 + t) (v := nv x) (by omega) (by rw [List.getElem?_map, hx] <;> rfl), _, _, rfl, rfl, ?_⟩
      refine ⟨some (.int ((i : Int) + 1 + t)), ?_, rfl⟩
      rw [take_more hx2, total_snoc, show nv (Uw02.total ((ls.drop (i + 1)).take t) + x) = V.int ((Uw02.total ((ls.drop (i + 1)).take t) : Nat) + (x : Nat)) from congrArg V.int (Int.natCast_add _ _)]
      rfl
    · rintro σ H' ⟨v, rfl, rfl⟩
      rw [en]
      exact ⟨_, rfl, k _ (Same.refl _)⟩
/-! ### clash_at -/
abbrev sCA : Stmt := top 4
theorem scCA : FnScope ["play", "one", "one_scene", "other", "other_scene"] ["play", "one", "one_scene", "other", "other_scene"] (defScope sCA) := ⟨rfl, rfl, rfl, by decide +kernel, rfl, by decide +kernel, by decide +kernel⟩
def spCA (C : Addr) : Sp := fun vs H Q _ => ∃ (a : Addr) (p : Uw02.Play) (r i s j : Nat), vs = [.ref a, nv r, nv i, nv s, nv j] ∧ PR C H a p ∧ Good p ∧ r < p.dress.length ∧ s < p.dress.length ∧ i < p.scenes.length ∧ j < p.scenes.length ∧
  RetV H Q (.bl (clashAt p r s i j))
theorem ok_CA {f : Addr} {fd : FuncData} (F : Fun K "clash_at" "clash_at" sCA f fd) (T : Txt K mg C) (D1 : DefOk P w K mg base "minutes_between" 1 ["lasts", "early", "late"] spMB) :
    FnOk P w K mg base CX0 2 f fd ["play", "one", "one_scene", "other", "other_scene"] (spCA C) := by
  refine F.ok scCA (fun vs H Q E h => ?_) (fun cdv A outer s H vs Q E hr h => ?_)
  · obtain ⟨a, p, r, i, s, j, rfl, _⟩ := h
    rfl
  · obtain ⟨a, p, r, i, s', j, rfl, ⟨d, l, o, w', f', R⟩, g, h1, h2, h3, h4, k⟩ := h
    refine ⟨_, pss_cons (ps_if (pt_cmpR op_eq (pv 2) (pv 4) (nomark _)) (pss_one (ps_ret pe_bl)) pss_nil)
      (pss_cons (ps_if (pt_cmpR op_lt (pv 2) (pv 4) (nomark _))
        (pss_one (ps_ret (pe_cmpR op_lt (pe_def D1 hr rfl (pa_cons (pe_fld (pv 0) rfl) (pa_cons (pv 2) (pa_cons (pv 4) pa_nil)))) (pe_ix ix_list (pe_fld (pv 0) rfl) (pv 3) (fun _ _ => rfl)) (nomark _)))) pss_nil)
      (pss_one (ps_ret (pe_cmpR op_lt (pe_def D1 hr rfl (pa_cons (pe_fld (pv 0) rfl) (pa_cons (pv 4) (pa_cons (pv 2) pa_nil)))) (pe_ix ix_list (pe_fld (pv 0) rfl) (pv 1) (fun _ _ => rfl)) (nomark _))))), ?_⟩
    obtain ⟨dx, hO⟩ := R.obj
    have sl := g.sl
    have hlen : (p.scenes.map fun s => s.long).length = p.scenes.length := List.length_map ..
    refine ⟨_, rfl, _, rfl, rfl, _, rfl, ?_⟩
    by_cases e : i = j
    · subst e
      have e2 : clashAt p r s' i i = true := by unfold clashAt; simp
      rw [e2] at k
      exact ift (decide_eq_true rfl) (k _ (Same.refl _))
    · refine ifn (decide_eq_false fun z => e (nv_inj z)) ?_
      refine ⟨_, rfl, _, rfl, _, _, rfl, rfl, _, rfl, ?_⟩
      by_cases lt : i < j
      · refine ift (decide_eq_true (by omega)) ?_
        have e2 : clashAt p r s' i j = decide (p.between i j < p.dress.getD s' 0) := by
          unfold clashAt
          rw [if_pos lt]
          simp [e]
        rw [e2] at k
        refine ⟨_, rfl, _, C, dx, _, _, rfl, hO, T.cl, T.nL, pF_lasts .., _, rfl, _, rfl, l, _, i, j, rfl, R.la, by omega, by omega, by omega, fun H1 s1 => ?_⟩
        refine ⟨_, rfl, _, C, dx, _, _, rfl, s1 _ _ hO, T.cl, T.nD, pF_dress .., _, rfl, _, _, _, _, rfl, rfl, SqL.of (R.dr.same s1), at_nat (get_of_lt h2), _, _, rfl, rfl, ?_⟩
        rw [← between_eq]
        have e3 : decide (((p.between i j : Nat) : Int) < ((p.dress.getD s' 0 : Nat) : Int)) = decide (p.between i j < p.dress.getD s' 0) := by
          rw [decide_eq_decide]; omega
        show Q (.bl (decide (((p.between i j : Nat) : Int) < ((p.dress.getD s' 0 : Nat) : Int)))) H1
        rw [e3]
        exact k _ s1
      · refine ifn (decide_eq_false (by omega)) ?_
        have e2 : clashAt p r s' i j = decide (p.between j i < p.dress.getD r 0) := by
          unfold clashAt
          rw [if_neg lt]
          simp [e]
        rw [e2] at k
        refine ⟨_, rfl, _, C, dx, _, _, rfl, hO, T.cl, T.nL, pF_lasts .., _, rfl, _, rfl, l, _, j, i, rfl, R.la, by omega, by omega, by omega, fun H1 s1 => ?_⟩
        refine ⟨_, rfl, _, C, dx, _, _, rfl, s1 _ _ hO, T.cl, T.nD, pF_dress .., _, rfl, _, _, _, _, rfl, rfl, SqL.of (R.dr.same s1), at_nat (get_of_lt h1), _, _, rfl, rfl, ?_⟩
        rw [← between_eq]
        have e3 : decide (((p.between j i : Nat) : Int) < ((p.dress.getD r 0 : Nat) : Int)) = decide (p.between j i < p.dress.getD r 0) := by
          rw [decide_eq_decide]; omega
        show Q (.bl (decide (((p.between j i : Nat) : Int) < ((p.dress.getD r 0 : Nat) : Int)))) H1
        rw [e3]
        exact k _ s1
end
end RD
namespace RD
open PySem PySem.Spec PyProof.Rows L2
theorem has_get {p : Uw02.Play} {i r : Nat} {x : List Nat} (h : (p.scenes.map fun s => s.roles)[i]? = some x) : p.has i r = x.contains r := by
  rw [List.getElem?_map, Option.map_eq_some_iff] at h
  obtain ⟨s, hs, rfl⟩ := h
  unfold Uw02.Play.has
  rw [hs]
  rfl
section
variable {P : Program} {w : World} {K : PySem.W.Frag} {mg : Str → Option Value} {base : Heap} {C : Addr}
/-! ### scenes_of -/
abbrev sSO : Stmt := top 5
theorem scSO : FnScope ["play", "role", "scene"] ["play", "role"] (defScope sSO) := ⟨rfl, rfl, rfl, by decide +kernel, rfl, by decide +kernel, by decide +kernel⟩
def spSO (C : Addr) : Sp := fun vs H Q _ => ∃ (a : Addr) (p : Uw02.Play) (r : Nat), vs = [.ref a, nv r] ∧ PR C H a p ∧ Good p ∧ RetNL H Q (p.where_ r)
theorem ok_SO {f : Addr} {fd : FuncData} (F : Fun K "scenes_of" "scenes_of" sSO f fd) (T : Txt K mg C) : FnOk P w K mg base CX0 1 f fd ["play", "role"] (spSO C) := by
  refine F.ok scSO (fun vs H Q E h => ?_) (fun cdv A outer s H vs Q E hr h => ?_)
  · obtain ⟨a, p, r, rfl, _⟩ := h
    rfl
  · obtain ⟨a, p, r, rfl, ⟨d, l, o, w', f', R⟩, g, k⟩ := h
    refine ⟨_, pss_one (ps_ret (pe_lc (own := [("scene", 2)]) (g := gName 2) (tt := tTest (tOp (rIn K false) (tVar 1) (tOp (rIxL K) (tFld K (tVar 0) "onstage") (tVar 2)))) rfl scSO.nd (pi_range1 (by rfl) T.range (pa_cons (pe_callB call_len_seq (by rfl) T.len PySem.boot_len (pa_cons (pe_fld (pv 0) rfl) pa_nil)) pa_nil))
      (blkOk_by (N := ["play", "role", "scene"]) (sc := defScope sSO) (by decide +kernel)) (fun _ _ _ _ _ => pg_name (i := 2) scSO.nd rfl (Or.inl rfl))
      (fun _ _ _ _ _ => pts_one (pt_cmpR op_in_seq (pv 1) (pe_ix ix_list (pe_fld (pv 0) rfl) (pv 2) (fun _ _ => rfl)) (by rfl))) (fun _ _ _ _ _ => pv 2))), ?_⟩
    obtain ⟨dx, hO⟩ := R.obj
    obtain ⟨as, hA, _⟩ := R.on
    have sl := g.sl
    have hlen : as.length = p.scenes.length := by rw [hA.len, List.length_map]
    have hl2 : (as.map V.ref).length = p.scenes.length := by rw [List.length_map, hlen]
    refine ⟨_, rfl, _, C, dx, _, _, rfl, hO, T.cl, T.nO, pF_onstage .., _, _, rfl, .inl (SqL.of hA.lst), _, rfl, by omega, by omega, fun D nD => lc_range (lo := 0) (n := (((as.map V.ref).length : Nat) : Int).toNat) (fun i H' => Same H H' ∧ NL H' D ((List.range i).filter fun i => p.has i r))
      ⟨sNew nD, upd_same⟩ ?_ ?_⟩
    · rintro i H' hi ⟨s1, hD⟩
      have hi2 : i < p.scenes.length := by omega
      obtain ⟨x, hx⟩ := get_lt (l := p.scenes.map fun s => s.roles) (i := i) (by rw [List.length_map]; exact hi2)
      obtain ⟨q, hq, hrow⟩ := hA.row i x hx
      refine ⟨rfl, _, rfl, _, rfl, _, C, dx, _, _, rfl, s1 _ _ hO, T.cl, T.nO, pF_onstage .., _, rfl, _, _, _, _, rfl, rfl, SqL.of (s1 _ _ hA.lst), at_of (j := i) (by omega) (by rw [List.getElem?_map, hq] <;> rfl),
        _, _, rfl, .inl (SqL.of (hrow.same s1)), rfl, flat_nv _, _, rfl, ?_⟩
      have e : inV (nv r) (x.map nv) = p.has i r := by rw [inV_nv, has_get hx]
      have hm := range_filter_more (fun i => p.has i r) i
      cases hh : p.has i r with
      | true =>
        refine ift (e.trans hh) ⟨_, rfl, _, hD, ?_, ?_⟩
        · rw [List.length_map]
          have := List.length_filter_le (fun i => p.has i r) (List.range i)
          rw [List.length_range] at this
          exact line_nat (by omega)
        · rw [hh, if_pos rfl] at hm
          refine ⟨sUpd s1 nD, ?_⟩
          unfold NL
          rw [upd_same, hm, List.map_append, Int.zero_add] <;> rfl
      | false =>
        rw [hh, if_neg Bool.false_ne_true, List.append_nil] at hm
        exact ifn (e.trans hh) ⟨s1, by rw [hm]; exact hD⟩
    · rintro H' ⟨s1, hD⟩
      rw [hl2] at hD
      exact k _ _ s1 nD hD
/-! ### first_clash -/
abbrev sFC : Stmt := top 6
theorem scFC : FnScope ["play", "low", "high", "low_scene", "high_scene"] ["play", "low", "high"] (defScope sFC) := ⟨rfl, rfl, rfl, by decide +kernel, rfl, by decide +kernel, by decide +kernel⟩
def spFC (C : Addr) : Sp := fun vs H Q _ => ∃ (a : Addr) (p : Uw02.Play) (r s : Nat), vs = [.ref a, nv r, nv s] ∧ PR C H a p ∧ Good p ∧ r < p.dress.length ∧ s < p.dress.length ∧ RetNL H Q (clashL p r s)
theorem ok_FC {f : Addr} {fd : FuncData} (F : Fun K "first_clash" "first_clash" sFC f fd) (T : Txt K mg C) (D1 : DefOk P w K mg base "scenes_of" 1 ["play", "role"] (spSO C))
    (D2 : DefOk P w K mg base "clash_at" 2 ["play", "one", "one_scene", "other", "other_scene"] (spCA C)) : FnOk P w K mg base CX0 3 f fd ["play", "low", "high"] (spFC C) := by
  refine F.ok scFC (fun vs H Q E h => ?_) (fun cdv A outer s H vs Q E hr h => ?_)
  · obtain ⟨a, p, r, s', rfl, _⟩ := h
    rfl
  · obtain ⟨a, p, r, s', rfl, R, g, h1, h2, k⟩ := h
    have hr1 : Room 1 _ := hr.mono (by decide)
    refine ⟨_, pss_cons (ps_for PassesOwn.never rfl (pi_list (pe_def D1 hr1 rfl (pa_cons (pv 0) (pa_cons (pv 1) pa_nil)))) (pg_name (i := 3) scFC.nd rfl (Or.inl rfl))
        (pss_one (ps_for PassesOwn.never rfl (pi_list (pe_def D1 hr1 rfl (pa_cons (pv 0) (pa_cons (pv 2) pa_nil)))) (pg_name (i := 4) scFC.nd rfl (Or.inl rfl))
          (pss_one (ps_if (pt_val (pe_def D2 hr rfl (pa_cons (pv 0) (pa_cons (pv 1) (pa_cons (pv 3) (pa_cons (pv 2) (pa_cons (pv 4) pa_nil)))))))
            (pss_one (ps_ret (pe_lst (pa_cons (pv 3) (pa_cons (pv 4) pa_nil))))) pss_nil)))))
      (pss_one (ps_ret (pe_lst pa_nil))), ?_⟩
    refine ⟨_, rfl, _, rfl, a, p, r, rfl, R, g, fun H1 q1 s1 n1 hq1 => ?_⟩
    refine ⟨q1, rfl, ⟨_, SqL.of hq1⟩, for_list (K := K) (a := q1) (xs := (p.where_ r).map nv) (fun i σ H' => ∃ v3 v4 : Option V, σ = [some (.ref a), some (nv r), some (nv s'), v3, v4] ∧ Same H1 H' ∧ ∀ x ∈ (p.where_ r).take i, ∀ y ∈ p.where_ s', clashAt p r s' x y = false)
      ⟨none, none, rfl, Same.refl _, by intro x hx; simp at hx⟩ (fun i σ H' _ ⟨_, _, _, s2, _⟩ => SqL.of (hq1.same s2)) ?_ ?_⟩
    · rintro i y σ H' hi ⟨v3, v4, rfl, s2, ho⟩
      rw [List.getElem?_map, Option.map_eq_some_iff] at hi
      obtain ⟨x, hx, rfl⟩ := hi
      have s12 := s1.trans s2
      refine ⟨_, rfl, _, rfl, a, p, s', rfl, R.same s12, g, fun H3 q2 s3 n2 hq2 => ?_⟩
      refine ⟨q2, rfl, ⟨_, SqL.of hq2⟩, for_list (K := K) (a := q2) (xs := (p.where_ s').map nv) (fun j σ H' => ∃ v4 : Option V, σ = [some (.ref a), some (nv r), some (nv s'), some (nv x), v4] ∧ Same H3 H' ∧ ∀ y ∈ (p.where_ s').take j, clashAt p r s' x y = false)
        ⟨v4, rfl, Same.refl _, by intro x hx; simp at hx⟩ (fun i σ H' _ ⟨_, _, s4, _⟩ => SqL.of (hq2.same s4)) ?_ ?_⟩
      · rintro j y σ H' hj ⟨v5, rfl, s4, hi2⟩
        rw [List.getElem?_map, Option.map_eq_some_iff] at hj
        obtain ⟨z, hz, rfl⟩ := hj
        have s14 := (s12.trans s3).trans s4
        refine ⟨_, rfl, _, rfl, _, rfl, _, rfl, _, rfl, a, p, r, x, s', z, rfl, R.same s14, g, h1, h2, where_lt (List.mem_of_getElem? hx), where_lt (List.mem_of_getElem? hz), fun H5 s5 => ⟨_, rfl, ?_⟩⟩
        cases hc : clashAt p r s' x z with
        | true =>
          refine ift rfl ⟨_, rfl, _, rfl, by show 2 ≤ sizeLine; decide, fun q hq => ?_⟩
          have s15 := s14.trans s5
          have e := clash_hit hx hz ho hi2 hc
          refine k _ _ (sUpd s15 (s15.free hq)) (s15.free hq) ?_
          rw [e]
          exact upd_same
        | false =>
          refine ifn rfl ⟨_, rfl, s4.trans s5, ?_⟩
          intro y hy
          rw [take_more hz, List.mem_append] at hy
          rcases hy with hy | hy
          · exact hi2 y hy
          · rw [List.mem_singleton.mp hy]
            exact hc
      · rintro σ H' ⟨v5, rfl, s4, hi2⟩
        rw [List.length_map, List.take_length] at hi2
        refine ⟨_, _, rfl, (s2.trans s3).trans s4, ?_⟩
        intro y hy
        rw [take_more hx, List.mem_append] at hy
        rcases hy with hy | hy
        · exact ho y hy
        · rw [List.mem_singleton.mp hy]
          exact hi2
    · rintro σ H' ⟨v3, v4, rfl, s2, ho⟩
      rw [List.length_map, List.take_length] at ho
      have s12 := s1.trans s2
      refine ⟨by show 0 ≤ sizeLine; decide, fun q hq => ?_⟩
      refine k _ _ (sUpd s12 (s12.free hq)) (s12.free hq) ?_
      rw [clash_none ho]
      exact upd_same
end
end RD
namespace RD
open PySem PySem.Spec PyProof.Rows L2
section
variable {P : Program} {w : World} {K : PySem.W.Frag} {mg : Str → Option Value} {base : Heap} {C : Addr}
/-! ### clashing_pairs -/
abbrev sCP : Stmt := top 7
theorem scCP : FnScope ["play", "pairs", "many", "low", "high", "scenes"] ["play"] (defScope sCP) := ⟨rfl, rfl, rfl, by decide +kernel, rfl, by decide +kernel, by decide +kernel⟩
def spCP (C : Addr) : Sp := fun vs H Q _ => ∃ (a : Addr) (p : Uw02.Play), vs = [.ref a] ∧ PR C H a p ∧ Good p ∧ RetLLf H Q (cpairs p)
theorem ok_CP {f : Addr} {fd : FuncData} (F : Fun K "clashing_pairs" "clashing_pairs" sCP f fd) (T : Txt K mg C) (D1 : DefOk P w K mg base "first_clash" 3 ["play", "low", "high"] (spFC C)) :
    FnOk P w K mg base CX0 4 f fd ["play"] (spCP C) := by
  refine F.ok scCP (fun vs H Q E h => ?_) (fun cdv A outer s H vs Q E hr h => ?_)
  · obtain ⟨a, p, rfl, _⟩ := h
    rfl
  · obtain ⟨a, p, rfl, R, g, k⟩ := h
    refine ⟨_, pss_cons (ps_set (i := 1) scCP.nd rfl (Or.inl rfl) (pe_lst pa_nil))
      (pss_cons (ps_set (i := 2) scCP.nd rfl (Or.inl rfl) (pe_callB call_len_seq (by rfl) T.len PySem.boot_len (pa_cons (pe_fld (pv 0) rfl) pa_nil)))
      (pss_cons (ps_for PassesOwn.never rfl (pi_range1 (by rfl) T.range (pa_cons (pv 2) pa_nil)) (pg_name (i := 3) scCP.nd rfl (Or.inl rfl))
        (pss_one (ps_for PassesOwn.never rfl (pi_range2 (by rfl) T.range (pa_cons (pe_op op_add (pv 3) pe_int) (pa_cons (pv 2) pa_nil))) (pg_name (i := 4) scCP.nd rfl (Or.inl rfl))
          (pss_cons (ps_set (i := 5) scCP.nd rfl (Or.inl rfl) (pe_def D1 hr rfl (pa_cons (pv 0) (pa_cons (pv 3) (pa_cons (pv 4) pa_nil)))))
          (pss_one (ps_if (pt_cmpR op_gt (pe_callB call_len_seq (by rfl) T.len PySem.boot_len (pa_cons (pv 5) pa_nil)) pe_int (nomark _))
            (pss_one (ps_expr (pe_bm PySem.F.plainAttrs_list PySem.F.slot_list_append PySem.F.type_list_append mt_append (pv 1) (pa_cons (pe_op op_cat (pe_lst (pa_cons (pv 3) (pa_cons (pv 4) pa_nil))) (pv 5)) pa_nil)))) pss_nil))))))
      (pss_one (ps_ret (pv 1))))), ?_⟩
    have R0 := R
    obtain ⟨d, l, o, w', f', R⟩ := R
    obtain ⟨dx, hO⟩ := R.obj
    have dl := g.dl
    have hd : (p.dress.map nv).length = p.dress.length := List.length_map ..
    refine ⟨by show 0 ≤ sizeLine; decide, fun q nq => ?_⟩
    have s0 : Same H (upd H q (.lst [])) := sNew nq
    refine ⟨_, rfl, _, C, dx, _, _, rfl, s0 _ _ hO, T.cl, T.nD, pF_dress .., _, _, rfl, .inl (SqL.of (R.dr.same s0)), ?_⟩
    rw [hd]
    refine ⟨_, rfl, _, rfl, by omega, by omega, for_range (lo := 0) (n := ((p.dress.length : Nat) : Int).toNat) (fun i σ H' => ∃ (as : List Addr) (v3 v4 v5 : Option V), σ = [some (.ref a), some (.ref q), some (nv p.dress.length), v3, v4, v5] ∧ Same H H' ∧ LLs H' q as (upto p p.dress.length i) ∧ ∀ y ∈ as, y ≠ q ∧ H y = none)
      ⟨[], none, none, none, rfl, s0, ⟨upd_same, rfl, fun i x e => by simp [upto] at e⟩, fun y hy => by simp at hy⟩ ?_ ?_⟩
    · rintro i σ H' hi ⟨as, v3, v4, v5, rfl, s1, hL, hA⟩
      have hi2 : i < p.dress.length := by omega
      rw [show ((0 : Int) + (i : Nat)) = ((i : Nat) : Int) from Int.zero_add _]
      have en : ((p.dress.length : Int) - ((i : Int) + 1)).toNat = p.dress.length - (i + 1) := by omega
      refine ⟨_, rfl, _, _, rfl, rfl, _, rfl, _, _, rfl, ⟨by omega, by omega, by omega, by omega⟩, for_range (lo := (i : Int) + 1) (n := ((p.dress.length : Int) - ((i : Int) + 1)).toNat) (fun t σ H' => ∃ (as : List Addr) (v4 v5 : Option V), σ = [some (.ref a), some (.ref q), some (nv p.dress.length), some (nv i), v4, v5] ∧ Same H H' ∧ LLs H' q as (upto p p.dress.length i ++ inner p i t) ∧ ∀ y ∈ as, y ≠ q ∧ H y = none)
        ⟨as, v4, v5, rfl, s1, by rw [show inner p i 0 = [] from rfl, List.append_nil]; exact hL, hA⟩ ?_ ?_⟩
      · rintro t σ H2 ht ⟨bs, v4, v5, rfl, s2, hL2, hB⟩
        rw [en] at ht
        have ht2 : i + 1 + t < p.dress.length := by omega
        rw [show ((i : Int) + 1 + (t : Nat)) = ((i + 1 + t : Nat) : Int) by omega]
        refine ⟨_, rfl, _, rfl, _, rfl, a, p, i, i + 1 + t, rfl, R0.same s2, g, hi2, ht2, fun H3 r s3 nr hr3 => ?_⟩
        refine ⟨_, rfl, _, _, rfl, .inl (SqL.of hr3), _, _, rfl, rfl, _, rfl, ?_⟩
        have s23 := s2.trans s3
        have hlen : (upto p p.dress.length i ++ inner p i t).length ≤ 1000 := by
          rw [List.length_append]
          have z1 := upto_len p p.dress.length i
          have z2 := inner_len p i t
          have z3 : i * p.dress.length ≤ 6 * 6 := Nat.mul_le_mul (by omega) dl
          omega
        have hm := inner_more p i t
        by_cases hc : (clashL p i (i + 1 + t)).length > 0
        · refine ift (decide_eq_true (by rw [List.length_map]; omega)) ?_
          have er : rowOf p i (i + 1 + t) = [[i, i + 1 + t] ++ clashL p i (i + 1 + t)] := by unfold rowOf; rw [if_pos hc]
          refine ⟨_, rfl, .inl ⟨rfl, _, SqL.of (hL2.same s3).lst⟩, _, rfl, _, rfl, by show 2 ≤ sizeLine; decide, fun l1 n1 => ?_⟩
          have s4 : Same H3 (upd H3 l1 (.lst [nv i, nv (i + 1 + t)])) := sNew n1
          have hz := clashL_len p i (i + 1 + t)
          refine ⟨_, rfl, l1, r, _, _, rfl, rfl, upd_same, hr3.same s4, ?_, fun l2 n2 => ?_⟩
          · rw [List.length_map]
            show 2 + _ ≤ _
            exact line_le (by omega)
          have s5 := sNew (o := .lst ([nv i, nv (i + 1 + t)] ++ (clashL p i (i + 1 + t)).map nv)) n2
          have s35 := (s3.trans s4).trans s5
          have hL5 := hL2.same s35
          refine ⟨q, _, _, rfl, rfl, hL5.lst, by rw [List.length_map, hL5.len]; exact line_nat (by omega), ?_⟩
          have nl2 : l2 ≠ q := fun e => by
            have := (hL2.same (s3.trans s4)).lst
            rw [← e, n2] at this
            cases this
          refine ⟨bs ++ [l2], _, _, rfl, sUpd (s2.trans s35) nq, ?_, fun y hy => ?_⟩
          · rw [hm, er, ← List.append_assoc]
            exact hL5.more upd_same (fun y hy => (hB y hy).1) nl2
          · rcases List.mem_append.mp hy with m | m
            · exact hB y m
            · rw [List.mem_singleton.mp m]
              exact ⟨nl2, ((s2.trans s3).trans s4).free n2⟩
        · refine ifn (decide_eq_false (by rw [List.length_map]; omega)) ?_
          have er : rowOf p i (i + 1 + t) = [] := by unfold rowOf; rw [if_neg hc]
          exact ⟨bs, _, _, rfl, s23, by rw [hm, er, List.append_nil]; exact hL2.same s3, hB⟩
      · rintro σ H2 ⟨bs, v4, v5, rfl, s2, hL2, hB⟩
        rw [en] at hL2
        exact ⟨bs, _, _, _, rfl, s2, by rw [upto_more]; exact hL2, hB⟩
    · rintro σ H2 ⟨bs, v3, v4, v5, rfl, s2, hL2, hB⟩
      rw [show ((p.dress.length : Nat) : Int).toNat = p.dress.length by omega, upto_all] at hL2
      exact ⟨_, rfl, k _ _ bs s2 nq hL2 fun y hy => (hB y hy).2⟩
/-! ### lower_foes -/
abbrev sLF : Stmt := top 8
theorem scLF : FnScope ["play", "foes", "pair", "role"] ["play"] (defScope sLF) := ⟨rfl, rfl, rfl, by decide +kernel, rfl, by decide +kernel, by decide +kernel⟩
def spLF (C : Addr) : Sp := fun vs H Q _ => ∃ (a : Addr) (p : Uw02.Play), vs = [.ref a] ∧ PR C H a p ∧ Good p ∧ RetLL H Q (foes p)
theorem ok_LF {f : Addr} {fd : FuncData} (F : Fun K "lower_foes" "lower_foes" sLF f fd) (T : Txt K mg C) (D1 : DefOk P w K mg base "clashing_pairs" 4 ["play"] (spCP C)) :
    FnOk P w K mg base CX0 5 f fd ["play"] (spLF C) := by
  refine F.ok scLF (fun vs H Q E h => ?_) (fun cdv A outer s H vs Q E hr h => ?_)
  · obtain ⟨a, p, rfl, _⟩ := h
    rfl
  · obtain ⟨a, p, rfl, R, g, k⟩ := h
    refine ⟨_, pss_cons (ps_setLc (i := 1) (own := [("role", 3)]) (g := gName 3) rfl scLF.nd rfl rfl (sw_true rfl rfl rfl (by decide +kernel)) (pi_range1 (by rfl) T.range (pa_cons (pe_callB call_len_seq (by rfl) T.len PySem.boot_len (pa_cons (pe_fld (pv 0) rfl) pa_nil)) pa_nil))
        (blkOk_by (N := ["play", "foes", "pair", "role"]) (sc := defScope sLF) (by decide +kernel)) (fun _ _ _ _ _ => pg_name (i := 3) scLF.nd rfl (Or.inl rfl)) (fun _ _ _ _ _ => pts_nil) (fun _ _ _ _ _ => pe_lst pa_nil))
      (pss_cons (ps_for PassesOwn.never rfl (pi_list (pe_def D1 hr rfl (pa_cons (pv 0) pa_nil))) (pg_name (i := 2) scLF.nd rfl (Or.inl rfl))
        (pss_one (ps_expr (pe_bm PySem.F.plainAttrs_list PySem.F.slot_list_append PySem.F.type_list_append mt_append (pe_ix ix_list (pv 1) (pe_ix ix_list (pv 2) pe_int (fun _ _ => rfl)) (fun _ _ => rfl)) (pa_cons (pe_ix ix_list (pv 2) pe_int (fun _ _ => rfl)) pa_nil)))))
      (pss_one (ps_ret (pv 1)))), ?_⟩
    have R0 := R
    obtain ⟨d, l, o, w', f', R⟩ := R
    obtain ⟨dx, hO⟩ := R.obj
    have dl := g.dl
    have hd : (p.dress.map nv).length = p.dress.length := List.length_map ..
    refine ⟨_, rfl, _, C, dx, _, _, rfl, hO, T.cl, T.nD, pF_dress .., _, _, rfl, .inl (SqL.of R.dr), ?_⟩
    rw [hd]
    refine ⟨_, rfl, by omega, by omega, fun D nD => lc_range (lo := 0) (n := ((p.dress.length : Nat) : Int).toNat) (fun i H' => ∃ as : List Addr, Same H H' ∧ LLs H' D as (foesOf i []) ∧ as.Nodup ∧ ∀ y ∈ as, y ≠ D ∧ H y = none)
      ⟨[], sNew nD, ⟨upd_same, rfl, fun i x e => by simp [foesOf] at e⟩, List.nodup_nil, fun y hy => by simp at hy⟩ ?_ ?_⟩
    · rintro i H1 hi ⟨as, s1, hL, hN, hA⟩
      refine ⟨rfl, ?_⟩
      dsimp only [tYes]
      rw [if_pos rfl]
      refine ⟨by show 0 ≤ sizeLine; decide, fun q nq => ?_⟩
      have s2 : Same H1 (upd H1 q (.lst [])) := sNew nq
      have hL2 := hL.same s2
      have nqD : q ≠ D := fun e => by
        have := hL.lst
        rw [← e, nq] at this
        cases this
      refine ⟨_, hL2.lst, by rw [List.length_map, hL2.len, foesOf_len]; exact line_nat (by omega), as ++ [q], sUpd (s1.trans s2) nD, ?_, ?_, fun y hy => ?_⟩
      · have e : foesOf (i + 1) [] = foesOf i [] ++ [[]] := by
          unfold foesOf
          rw [List.range_succ, List.map_append]
          rfl
        rw [e]
        exact hL2.more (x := []) upd_same (fun y hy => (hA y hy).1) nqD
      · rw [List.nodup_append]
        refine ⟨hN, List.nodup_cons.mpr ⟨by simp, List.nodup_nil⟩, fun y hy z hz => ?_⟩
        rw [List.mem_singleton.mp hz]
        intro e
        obtain ⟨j, hj⟩ := List.mem_iff_getElem?.mp hy
        obtain ⟨x, _, hx⟩ := hL.get hj
        unfold NL at hx
        rw [e, nq] at hx
        cases hx
      · rcases List.mem_append.mp hy with m | m
        · exact hA y m
        · rw [List.mem_singleton.mp m]
          exact ⟨nqD, s1.free nq⟩
    · rintro H1 ⟨as, s1, hL, hN, hA⟩
      rw [show ((p.dress.length : Nat) : Int).toNat = p.dress.length by omega] at hL
      refine ⟨_, rfl, a, p, rfl, R0.same s1, g, fun H2 q bs s2 nq hP hB => ?_⟩
      have hasq : ∀ y ∈ as, y ≠ q ∧ y ∉ bs := fun y hy => by
        obtain ⟨j, hj⟩ := List.mem_iff_getElem?.mp hy
        obtain ⟨x, _, hx⟩ := hL.get hj
        unfold NL at hx
        refine ⟨fun e => ?_, fun m => ?_⟩
        · rw [e, nq] at hx
          cases hx
        · rw [hB y m] at hx
          cases hx
      refine ⟨q, rfl, ⟨_, SqL.of hP.lst⟩, for_list (K := K) (a := q) (xs := bs.map V.ref) (fun i σ H' => ∃ v : Option V, σ = [some (.ref a), some (.ref D), v, none] ∧ Same H H' ∧ LLs H' D as (foesOf p.dress.length ((cpairs p).take i)) ∧ LLs H' q bs (cpairs p))
        ⟨none, rfl, s1.trans s2, hL.same s2, hP⟩ (fun i σ H' _ ⟨_, _, _, _, h⟩ => SqL.of h.lst) ?_ ?_⟩
      · rintro i y σ H3 hi ⟨v, rfl, s3, hL3, hP3⟩
        rw [List.getElem?_map, Option.map_eq_some_iff] at hi
        obtain ⟨y, hy, rfl⟩ := hi
        obtain ⟨x, hx, hrow⟩ := hP3.get hy
        obtain ⟨a0, b0, i0, j0, rfl, c1, c2, _⟩ := cpairs_mem (List.mem_of_getElem? hx)
        have hf := foesOf_get (cp := (cpairs p).take i) c2
        obtain ⟨z, hz, hzr⟩ := hL3.row b0 _ hf
        refine ⟨_, rfl, _, rfl, _, _, _, _, rfl, rfl, SqL.of hrow, at_of (j := 1) (v := nv b0) rfl rfl, _, _, _, _, rfl, rfl, SqL.of hL3.lst, at_ref hz, .inl ⟨rfl, _, SqL.of hzr⟩,
          _, rfl, _, _, _, _, rfl, rfl, SqL.of hrow, at_of (j := 0) (v := nv a0) rfl rfl, z, _, _, rfl, rfl, hzr, by rw [List.length_map]; exact line_nat (by have := foe_len dl b0 i; omega), ?_⟩
        have zA := List.mem_of_getElem? hz
        refine ⟨_, rfl, sUpd s3 (hA z zA).2, ?_, hP3.off (fun e => (hasq z zA).1 e.symm) fun t ht e => (hasq z zA).2 (by rw [← e]; exact ht)⟩
        rw [take_more hx, foesOf_more (x := [a0, b0, i0, j0]) (b := b0) rfl c2]
        have e : (foeOf ((cpairs p).take i) b0).map nv ++ [nv a0] = (foeOf ((cpairs p).take i) b0 ++ [[a0, b0, i0, j0].getD 0 0]).map nv := by rw [List.map_append]; rfl
        rw [e]
        exact hL3.grow hz hN (fun t ht => (hA t ht).1) hf
      · rintro σ H3 ⟨v, rfl, s3, hL3, hP3⟩
        rw [List.length_map, hP3.len, List.take_length] at hL3
        exact ⟨_, rfl, k _ _ s3 nD ⟨as, hL3⟩⟩
end
end RD
namespace RD
open PySem PySem.Spec PyProof.Rows L2
theorem find_at {α : Type} {Q : α → Bool} : ∀ {l : List α} {i : Nat} {x : α}, l[i]? = some x → (∀ y ∈ l.take i, Q y = false) → Q x = true → l.find? Q = some x
  | [], _, _, h, _, _ => by simp at h
  | a :: l, 0, x, h, _, q => by
    have e : a = x := Option.some.inj h
    subst e
    rw [List.find?_cons_of_pos q]
  | a :: l, i + 1, x, h, g, q => by
    rw [List.find?_cons_of_neg (by rw [g a (by simp)]; simp)]
    exact find_at (l := l) (i := i) h (fun y hy => g y (by rw [List.take_succ_cons]; exact List.mem_cons_of_mem _ hy)) q
theorem find_range {Q : Nat → Bool} {n t : Nat} (h : t < n) (g : ∀ r < t, Q r = false) (q : Q t = true) : (List.range n).find? Q = some t :=
  find_at (i := t) (List.getElem?_range h) (fun y hy => by
    rw [List.take_range, List.mem_range] at hy
    exact g y (by omega)) q
theorem find_not {α : Type} {Q : α → Bool} {l : List α} (g : ∀ y ∈ l, Q y = false) : l.find? Q = none := by
  rw [List.find?_eq_none]
  intro y hy
  rw [g y hy]
  simp
theorem fee_get {p : Uw02.Play} (g : Good p) {x r : Nat} {row : List Nat} (hx : (p.players.map fRow)[x]? = some row) (hr : r < p.dress.length) : row[r]? = some (encF (p.fee r x)) := by
  rw [List.getElem?_map, Option.map_eq_some_iff] at hx
  obtain ⟨y, hy, rfl⟩ := hx
  have hl := g.fl y (List.mem_of_getElem? hy)
  unfold fRow Uw02.Play.fee
  rw [hy, List.getElem?_map]
  show _ = some (encF (y.fees.getD r none))
  rw [List.getElem?_eq_getElem (by omega), List.getD_eq_getElem?_getD, List.getElem?_eq_getElem (by omega)]
  rfl
theorem encF_pos (o : Option Nat) : decide ((0 : Int) < ((encF o : Nat) : Int)) = o.isSome := by
  cases o with
  | none => rfl
  | some x => exact decide_eq_true (by show (0 : Int) < ((x + 1 : Nat) : Int); omega)
theorem wage_get {p : Uw02.Play} {x : Nat} (hx : x < p.players.length) : (p.players.map fun x => x.wage)[x]? = some (wageOf p x) := by
  unfold wageOf
  rw [List.getElem?_map, List.getElem?_eq_getElem hx]
  rfl
theorem eng_lt {p : Uw02.Play} {c : List Nat} {x : Nat} (h : x ∈ p.engaged c) : x < p.players.length := List.mem_range.mp (List.mem_filter.mp h).1
section
variable {P : Program} {w : World} {K : PySem.W.Frag} {mg : Str → Option Value} {base : Heap} {C : Addr}
/-! ### can_play -/
abbrev sCn : Stmt := top 10
theorem scCn : FnScope ["play", "player", "role"] ["play", "player", "role"] (defScope sCn) := ⟨rfl, rfl, rfl, by decide +kernel, rfl, by decide +kernel, by decide +kernel⟩
def spCn (C : Addr) : Sp := fun vs H Q _ => ∃ (a : Addr) (p : Uw02.Play) (x r : Nat), vs = [.ref a, nv x, nv r] ∧ PR C H a p ∧ Good p ∧ x < p.players.length ∧ r < p.dress.length ∧ RetV H Q (.bl (canPlay p x r))
theorem ok_Cn {f : Addr} {fd : FuncData} (F : Fun K "can_play" "can_play" sCn f fd) (T : Txt K mg C) : FnOk P w K mg base CX0 1 f fd ["play", "player", "role"] (spCn C) := by
  refine F.ok scCn (fun vs H Q E h => ?_) (fun cdv A outer s H vs Q E hr h => ?_)
  · obtain ⟨a, p, x, r, rfl, _⟩ := h
    rfl
  · obtain ⟨a, p, x, r, rfl, ⟨d, l, o, w', f', R⟩, g, hx, hr2, k⟩ := h
    refine ⟨_, pss_one (ps_ret (pe_cmpR op_gt (pe_ix ix_list (pe_ix ix_list (pe_fld (pv 0) rfl) (pv 1) (fun _ _ => rfl)) (pv 2) (fun _ _ => rfl)) pe_int (nomark _))), ?_⟩
    obtain ⟨dx, hO⟩ := R.obj
    obtain ⟨bs, hB, _⟩ := R.fe
    obtain ⟨row, hrow⟩ := get_lt (l := p.players.map fRow) (i := x) (by rw [List.length_map]; exact hx)
    obtain ⟨q, hq, hqr⟩ := hB.row x row hrow
    have hf := fee_get g hrow hr2
    refine ⟨_, rfl, _, C, dx, _, _, rfl, hO, T.cl, T.nF, pF_fees .., _, rfl, _, _, _, _, rfl, rfl, SqL.of hB.lst, at_ref hq, _, rfl, _, _, _, _, rfl, rfl, SqL.of hqr, at_nat hf, _, _, rfl, rfl, ?_⟩
    have e : decide ((0 : Int) < ((encF (p.fee r x) : Nat) : Int)) = canPlay p x r := encF_pos _
    show Q (.bl (decide ((0 : Int) < ((encF (p.fee r x) : Nat) : Int)))) H
    rw [e]
    exact k _ (Same.refl _)
/-! ### engaged -/
abbrev sEn : Stmt := top 11
theorem scEn : FnScope ["play", "casting", "player"] ["play", "casting"] (defScope sEn) := ⟨rfl, rfl, rfl, by decide +kernel, rfl, by decide +kernel, by decide +kernel⟩
def spEn (C : Addr) : Sp := fun vs H Q _ => ∃ (a b : Addr) (p : Uw02.Play) (c : List Nat), vs = [.ref a, .ref b] ∧ PR C H a p ∧ Good p ∧ NL H b c ∧ RetNL H Q (p.engaged c)
theorem ok_En {f : Addr} {fd : FuncData} (F : Fun K "engaged" "engaged" sEn f fd) (T : Txt K mg C) : FnOk P w K mg base CX0 1 f fd ["play", "casting"] (spEn C) := by
  refine F.ok scEn (fun vs H Q E h => ?_) (fun cdv A outer s H vs Q E hr h => ?_)
  · obtain ⟨a, b, p, c, rfl, _⟩ := h
    rfl
  · obtain ⟨a, b, p, c, rfl, ⟨d, l, o, w', f', R⟩, g, hc, k⟩ := h
    refine ⟨_, pss_one (ps_ret (pe_lc (own := [("player", 2)]) (g := gName 2) (tt := tTest (tOp (rIn K false) (tVar 2) (tVar 1))) rfl scEn.nd (pi_range1 (by rfl) T.range (pa_cons (pe_callB call_len_seq (by rfl) T.len PySem.boot_len (pa_cons (pe_fld (pv 0) rfl) pa_nil)) pa_nil))
      (blkOk_by (N := ["play", "casting", "player"]) (sc := defScope sEn) (by decide +kernel)) (fun _ _ _ _ _ => pg_name (i := 2) scEn.nd rfl (Or.inl rfl))
      (fun _ _ _ _ _ => pts_one (pt_cmpR op_in_seq (pv 2) (pv 1) (by rfl))) (fun _ _ _ _ _ => pv 2))), ?_⟩
    obtain ⟨dx, hO⟩ := R.obj
    have pl := g.pl
    have hl : ((p.players.map fun x => x.wage).map nv).length = p.players.length := by rw [List.length_map, List.length_map]
    refine ⟨_, rfl, _, C, dx, _, _, rfl, hO, T.cl, T.nW, pF_wages .., _, _, rfl, .inl (SqL.of R.wa), ?_⟩
    rw [hl]
    refine ⟨_, rfl, by omega, by omega, fun D nD => lc_range (lo := 0) (n := ((p.players.length : Nat) : Int).toNat) (fun i H' => Same H H' ∧ NL H' D ((List.range i).filter fun x => c.contains x))
      ⟨sNew nD, upd_same⟩ ?_ ?_⟩
    · rintro i H' hi ⟨s1, hD⟩
      rw [show ((0 : Int) + (i : Nat)) = ((i : Nat) : Int) from Int.zero_add _]
      refine ⟨rfl, _, rfl, _, rfl, _, _, rfl, .inl (SqL.of (hc.same s1)), rfl, flat_nv _, _, rfl, ?_⟩
      have e : inV (nv i) (c.map nv) = c.contains i := inV_nv i c
      have hm := range_filter_more (fun x => c.contains x) i
      cases hh : c.contains i with
      | true =>
        refine ift (e.trans hh) ⟨_, rfl, _, hD, ?_, ?_⟩
        · rw [List.length_map]
          have := List.length_filter_le (fun x => c.contains x) (List.range i)
          rw [List.length_range] at this
          exact line_nat (by omega)
        · rw [hh, if_pos rfl] at hm
          refine ⟨sUpd s1 nD, ?_⟩
          unfold NL
          rw [upd_same, hm, List.map_append] <;> rfl
      | false =>
        rw [hh, if_neg Bool.false_ne_true, List.append_nil] at hm
        exact ifn (e.trans hh) ⟨s1, by rw [hm]; exact hD⟩
    · rintro H' ⟨s1, hD⟩
      rw [show ((p.players.length : Nat) : Int).toNat = p.players.length by omega] at hD
      exact k _ _ s1 nD hD
/-! ### wages_of -/
abbrev sWa : Stmt := top 12
theorem scWa : FnScope ["play", "casting", "total", "player"] ["play", "casting"] (defScope sWa) := ⟨rfl, rfl, rfl, by decide +kernel, rfl, by decide +kernel, by decide +kernel⟩
def spWa (C : Addr) : Sp := fun vs H Q _ => ∃ (a b : Addr) (p : Uw02.Play) (c : List Nat), vs = [.ref a, .ref b] ∧ PR C H a p ∧ Good p ∧ NL H b c ∧ RetV H Q (nv (Uw02.total ((p.engaged c).map (wageOf p))))
theorem ok_Wa {f : Addr} {fd : FuncData} (F : Fun K "wages_of" "wages_of" sWa f fd) (T : Txt K mg C) (D1 : DefOk P w K mg base "engaged" 1 ["play", "casting"] (spEn C)) : FnOk P w K mg base CX0 2 f fd ["play", "casting"] (spWa C) := by
  refine F.ok scWa (fun vs H Q E h => ?_) (fun cdv A outer s H vs Q E hr h => ?_)
  · obtain ⟨a, b, p, c, rfl, _⟩ := h
    rfl
  · obtain ⟨a, b, p, c, rfl, R, g, hc, k⟩ := h
    refine ⟨_, pss_cons (ps_set (i := 2) scWa.nd rfl (Or.inl rfl) pe_int)
      (pss_cons (ps_for PassesOwn.never rfl (pi_list (pe_def D1 hr rfl (pa_cons (pv 0) (pa_cons (pv 1) pa_nil)))) (pg_name (i := 3) scWa.nd rfl (Or.inl rfl))
        (pss_one (ps_set (i := 2) scWa.nd rfl (Or.inl rfl) (pe_op op_add (pv 2) (pe_ix ix_list (pe_fld (pv 0) rfl) (pv 3) (fun _ _ => rfl))))))
      (pss_one (ps_ret (pv 2)))), ?_⟩
    have R0 := R
    obtain ⟨d, l, o, w', f', R⟩ := R
    obtain ⟨dx, hO⟩ := R.obj
    refine ⟨_, rfl, _, rfl, a, b, p, c, rfl, R0, g, hc, fun H1 q s1 n1 hq => ?_⟩
    refine ⟨q, rfl, ⟨_, SqL.of hq⟩, for_list (K := K) (a := q) (xs := (p.engaged c).map nv) (fun i σ H' => ∃ v : Option V, σ = [some (.ref a), some (.ref b), some (nv (Uw02.total (((p.engaged c).take i).map (wageOf p)))), v] ∧ H' = H1)
      ⟨none, rfl, rfl⟩ (fun i σ H' _ ⟨_, _, e⟩ => by rw [e]; exact SqL.of hq) ?_ ?_⟩
    · rintro i y σ H' hi ⟨v, rfl, rfl⟩
      rw [List.getElem?_map, Option.map_eq_some_iff] at hi
      obtain ⟨x, hx, rfl⟩ := hi
      refine ⟨_, rfl, _, rfl, _, C, dx, _, _, rfl, s1 _ _ hO, T.cl, T.nW, pF_wages .., _, rfl, _, _, _, _, rfl, rfl, SqL.of (R.wa.same s1), at_nat (wage_get (eng_lt (List.mem_of_getElem? hx))), _, _, rfl, rfl, ?_⟩
      refine ⟨some (nv x), ?_, rfl⟩
      rw [take_more hx, List.map_append, List.map_cons, List.map_nil, total_snoc, show nv (Uw02.total (((p.engaged c).take i).map (wageOf p)) + wageOf p x) = V.int ((Uw02.total (((p.engaged c).take i).map (wageOf p)) : Nat) + (wageOf p x : Nat)) from congrArg V.int (Int.natCast_add _ _)]
      rfl
    · rintro σ H' ⟨v, rfl, rfl⟩
      rw [List.length_map, List.take_length]
      exact ⟨_, rfl, k _ s1⟩
/-! ### fees_of -/
abbrev sFe : Stmt := top 13
theorem scFe : FnScope ["play", "casting", "total", "role"] ["play", "casting"] (defScope sFe) := ⟨rfl, rfl, rfl, by decide +kernel, rfl, by decide +kernel, by decide +kernel⟩
def spFe (C : Addr) : Sp := fun vs H Q _ => ∃ (a b : Addr) (p : Uw02.Play) (c : List Nat), vs = [.ref a, .ref b] ∧ PR C H a p ∧ Good p ∧ NL H b c ∧ Able p c ∧ RetV H Q (nv (feeUp p c c.length))
theorem ok_Fe {f : Addr} {fd : FuncData} (F : Fun K "fees_of" "fees_of" sFe f fd) (T : Txt K mg C) : FnOk P w K mg base CX0 1 f fd ["play", "casting"] (spFe C) := by
  refine F.ok scFe (fun vs H Q E h => ?_) (fun cdv A outer s H vs Q E hr h => ?_)
  · obtain ⟨a, b, p, c, rfl, _⟩ := h
    rfl
  · obtain ⟨a, b, p, c, rfl, ⟨d, l, o, w', f', R⟩, g, hc, ab, k⟩ := h
    refine ⟨_, pss_cons (ps_set (i := 2) scFe.nd rfl (Or.inl rfl) pe_int)
      (pss_cons (ps_for PassesOwn.never rfl (pi_range1 (by rfl) T.range (pa_cons (pe_callB call_len_seq (by rfl) T.len PySem.boot_len (pa_cons (pv 1) pa_nil)) pa_nil)) (pg_name (i := 3) scFe.nd rfl (Or.inl rfl))
        (pss_one (ps_set (i := 2) scFe.nd rfl (Or.inl rfl) (pe_op op_sub (pe_op op_add (pv 2) (pe_ix ix_list (pe_ix ix_list (pe_fld (pv 0) rfl) (pe_ix ix_list (pv 1) (pv 3) (fun _ _ => rfl)) (fun _ _ => rfl)) (pv 3) (fun _ _ => rfl))) pe_int))))
      (pss_one (ps_ret (pv 2)))), ?_⟩
    obtain ⟨dx, hO⟩ := R.obj
    obtain ⟨bs, hB, _⟩ := R.fe
    have dl := g.dl
    have al := ab.len
    have hl : (c.map nv).length = c.length := List.length_map ..
    refine ⟨_, rfl, _, _, rfl, .inl (SqL.of hc), ?_⟩
    rw [hl]
    refine ⟨_, rfl, by omega, by omega, for_range (lo := 0) (n := ((c.length : Nat) : Int).toNat) (fun i σ H' => ∃ v : Option V, σ = [some (.ref a), some (.ref b), some (nv (feeUp p c i)), v] ∧ H' = H)
      ⟨none, rfl, rfl⟩ ?_ ?_⟩
    · rintro i σ H' hi ⟨v, rfl, rfl⟩
      rw [show ((0 : Int) + (i : Nat)) = ((i : Nat) : Int) from Int.zero_add _]
      have hi2 : i < c.length := by omega
      have hci := get_of_lt hi2
      have hpl := ab.lt _ (List.mem_of_getElem? hci)
      obtain ⟨row, hrow⟩ := get_lt (l := p.players.map fRow) (i := c.getD i 0) (by rw [List.length_map]; exact hpl)
      obtain ⟨q, hq, hqr⟩ := hB.row _ row hrow
      have hf := fee_get g hrow (r := i) (by omega)
      obtain ⟨z, hz⟩ := Option.isSome_iff_exists.mp (ab.can i hi2)
      refine ⟨_, rfl, _, rfl, _, C, dx, _, _, rfl, hO, T.cl, T.nF, pF_fees .., _, rfl, _, rfl, _, _, _, _, rfl, rfl, SqL.of hc, at_nat hci, _, _, _, _, rfl, rfl, SqL.of hB.lst, at_ref hq, _, rfl, _, _, _, _, rfl, rfl, SqL.of hqr, at_nat hf, _, _, rfl, rfl, _, _, rfl, rfl, ?_⟩
      refine ⟨some (nv i), ?_, rfl⟩
      rw [feeUp_more, hz]
      have e : ((feeUp p c i : Nat) : Int) + ((encF (some z) : Nat) : Int) - 1 = ((feeUp p c i + (some z).getD 0 : Nat) : Int) := by
        show ((feeUp p c i : Nat) : Int) + ((z + 1 : Nat) : Int) - 1 = ((feeUp p c i + z : Nat) : Int)
        omega
      show [some (V.ref a), some (V.ref b), some (V.int (((feeUp p c i : Nat) : Int) + ((encF (some z) : Nat) : Int) - 1)), _] = _
      rw [e]
    · rintro σ H' ⟨v, rfl, rfl⟩
      rw [show ((c.length : Nat) : Int).toNat = c.length by omega]
      exact ⟨_, rfl, k _ (Same.refl _)⟩
/-! ### cost -/
abbrev sCo : Stmt := top 14
theorem scCo : FnScope ["play", "casting"] ["play", "casting"] (defScope sCo) := ⟨rfl, rfl, rfl, by decide +kernel, rfl, by decide +kernel, by decide +kernel⟩
def spCo (C : Addr) : Sp := fun vs H Q _ => ∃ (a b : Addr) (p : Uw02.Play) (c : List Nat), vs = [.ref a, .ref b] ∧ PR C H a p ∧ Good p ∧ NL H b c ∧ Able p c ∧ RetV H Q (nv (p.cost c))
theorem ok_Co {f : Addr} {fd : FuncData} (F : Fun K "cost" "cost" sCo f fd) (D1 : DefOk P w K mg base "wages_of" 2 ["play", "casting"] (spWa C)) (D2 : DefOk P w K mg base "fees_of" 1 ["play", "casting"] (spFe C)) : FnOk P w K mg base CX0 3 f fd ["play", "casting"] (spCo C) := by
  refine F.ok scCo (fun vs H Q E h => ?_) (fun cdv A outer s H vs Q E hr h => ?_)
  · obtain ⟨a, b, p, c, rfl, _⟩ := h
    rfl
  · obtain ⟨a, b, p, c, rfl, R, g, hc, ab, k⟩ := h
    have hr1 : Room 1 _ := hr.mono (by decide)
    refine ⟨_, pss_one (ps_ret (pe_op op_add (pe_def D1 hr rfl (pa_cons (pv 0) (pa_cons (pv 1) pa_nil))) (pe_def D2 hr1 rfl (pa_cons (pv 0) (pa_cons (pv 1) pa_nil))))), ?_⟩
    refine ⟨_, rfl, _, rfl, a, b, p, c, rfl, R, g, hc, fun H1 s1 => ?_⟩
    refine ⟨_, rfl, _, rfl, a, b, p, c, rfl, R.same s1, g, hc.same s1, ab, fun H2 s2 => ⟨_, _, rfl, rfl, ?_⟩⟩
    have e : nv (p.cost c) = V.int (((Uw02.total ((p.engaged c).map (wageOf p)) : Nat) : Int) + ((feeUp p c c.length : Nat) : Int)) := by
      rw [cost_eq]
      exact congrArg V.int (Int.natCast_add _ _)
    rw [e] at k
    exact k _ (s1.trans s2)
end
end RD
namespace RD
open PySem PySem.Spec PyProof.Rows L2
theorem rc_lens {p : Uw02.Play} {k : Nat} {c : List Nat} (h : c ∈ rc p (foes p) k) : c.length = k := by
  rw [rc_rows (fun r => foes_below r)] at h
  exact rows_len (List.mem_filter.mp h).1
/-- a casting with each of the first t players that may play one more role -/
def part (p : Uw02.Play) (fs : List (List Nat)) (c : List Nat) (r t : Nat) : List (List Nat) := ((List.range t).filter fun x => canPlay p x r && fits fs c r x).map fun x => c ++ [x]
theorem part_more (p : Uw02.Play) (fs : List (List Nat)) (c : List Nat) (r t : Nat) : part p fs c r (t + 1) = part p fs c r t ++ (if (canPlay p t r && fits fs c r t) = true then [c ++ [t]] else []) := by
  unfold part
  rw [range_filter_more, List.map_append]
  congr 1
  split <;> rfl
theorem part_len (p : Uw02.Play) (fs : List (List Nat)) (c : List Nat) (r t : Nat) : (part p fs c r t).length ≤ t := by
  unfold part
  rw [List.length_map]
  have := List.length_filter_le (fun x => canPlay p x r && fits fs c r x) (List.range t)
  rw [List.length_range] at this
  exact this
theorem oneMore_more {p : Uw02.Play} {fs css : List (List Nat)} {r i : Nat} {c : List Nat} (h : css[i]? = some c) : oneMore p fs (css.take (i + 1)) r = oneMore p fs (css.take i) r ++ part p fs c r p.players.length := by
  unfold oneMore
  rw [take_more h, List.flatMap_append]
  simp [part]
section
variable {P : Program} {w : World} {K : PySem.W.Frag} {mg : Str → Option Value} {base : Heap} {C : Addr}
/-! ### unable -/
abbrev sUn : Stmt := top 15
theorem scUn : FnScope ["play", "casting", "role"] ["play", "casting"] (defScope sUn) := ⟨rfl, rfl, rfl, by decide +kernel, rfl, by decide +kernel, by decide +kernel⟩
def spUn (C : Addr) : Sp := fun vs H Q _ => ∃ (a b : Addr) (p : Uw02.Play) (c : List Nat), vs = [.ref a, .ref b] ∧ PR C H a p ∧ Good p ∧ NL H b c ∧ c.length = p.dress.length ∧ (∀ x ∈ c, x < p.players.length) ∧ RetNL H Q (unableL p c)
theorem ok_Un {f : Addr} {fd : FuncData} (F : Fun K "unable" "unable" sUn f fd) (T : Txt K mg C) (D1 : DefOk P w K mg base "can_play" 1 ["play", "player", "role"] (spCn C)) : FnOk P w K mg base CX0 2 f fd ["play", "casting"] (spUn C) := by
  refine F.ok scUn (fun vs H Q E h => ?_) (fun cdv A outer s H vs Q E hr h => ?_)
  · obtain ⟨a, b, p, c, rfl, _⟩ := h
    rfl
  · obtain ⟨a, b, p, c, rfl, R, g, hc, al, at', k⟩ := h
    refine ⟨_, pss_cons (ps_for PassesOwn.never rfl (pi_range1 (by rfl) T.range (pa_cons (pe_callB call_len_seq (by rfl) T.len PySem.boot_len (pa_cons (pv 1) pa_nil)) pa_nil)) (pg_name (i := 2) scUn.nd rfl (Or.inl rfl))
        (pss_one (ps_if (pt_not (pt_val (pe_def D1 hr rfl (pa_cons (pv 0) (pa_cons (pe_ix ix_list (pv 1) (pv 2) (fun _ _ => rfl)) (pa_cons (pv 2) pa_nil))))))
          (pss_one (ps_ret (pe_lst (pa_cons pe_int (pa_cons (pv 2) (pa_cons (pe_ix ix_list (pv 1) (pv 2) (fun _ _ => rfl)) pa_nil)))))) pss_nil)))
      (pss_one (ps_ret (pe_lst pa_nil))), ?_⟩
    have dl := g.dl
    have hl : (c.map nv).length = c.length := List.length_map ..
    refine ⟨_, rfl, _, _, rfl, .inl (SqL.of hc), ?_⟩
    rw [hl]
    refine ⟨_, rfl, by omega, by omega, for_range (lo := 0) (n := ((c.length : Nat) : Int).toNat) (fun i σ H' => ∃ v : Option V, σ = [some (.ref a), some (.ref b), v] ∧ Same H H' ∧ ∀ r < i, (p.fee r (c.getD r 0)).isNone = false)
      ⟨none, rfl, Same.refl _, fun r hr => absurd hr (Nat.not_lt_zero r)⟩ ?_ ?_⟩
    · rintro i σ H' hi ⟨v, rfl, s1, hn⟩
      rw [show ((0 : Int) + (i : Nat)) = ((i : Nat) : Int) from Int.zero_add _]
      have hi2 : i < c.length := by omega
      have hci := get_of_lt hi2
      have hpl := at' _ (List.mem_of_getElem? hci)
      refine ⟨_, rfl, _, rfl, _, rfl, _, _, _, _, rfl, rfl, SqL.of (hc.same s1), at_nat hci, _, rfl, a, p, _, i, rfl, R.same s1, g, hpl, by omega, fun H2 s2 => ⟨_, rfl, ?_⟩⟩
      have s12 := s1.trans s2
      cases hf : p.fee i (c.getD i 0) with
      | none =>
        have e : canPlay p (c.getD i 0) i = false := by unfold canPlay; rw [hf]; rfl
        refine ift (by rw [e] <;> rfl) ⟨_, rfl, _, rfl, _, rfl, _, _, _, _, rfl, rfl, SqL.of (hc.same s12), at_nat hci, by show 3 ≤ sizeLine; decide, fun q nq => ?_⟩
        have eu : unableL p c = [1, i, c.getD i 0] := by
          unfold unableL
          rw [find_range hi2 hn (by rw [hf]; rfl)]
        refine k _ _ (sUpd s12 (s12.free nq)) (s12.free nq) ?_
        rw [eu]
        exact upd_same
      | some z =>
        have e : canPlay p (c.getD i 0) i = true := by unfold canPlay; rw [hf]; rfl
        refine ifn (by rw [e] <;> rfl) ⟨_, rfl, s12, fun r hr3 => ?_⟩
        by_cases h : r = i
        · subst h
          rw [hf]
          rfl
        · exact hn r (by omega)
    · rintro σ H' ⟨v, rfl, s1, hn⟩
      rw [show ((c.length : Nat) : Int).toNat = c.length by omega] at hn
      refine ⟨by show 0 ≤ sizeLine; decide, fun q nq => ?_⟩
      have eu : unableL p c = [] := by
        unfold unableL
        rw [find_not fun r hr3 => hn r (List.mem_range.mp hr3)]
      refine k _ _ (sUpd s1 (s1.free nq)) (s1.free nq) ?_
      rw [eu]
      exact upd_same
/-! ### meeting -/
abbrev sMe : Stmt := top 16
theorem scMe : FnScope ["play", "casting", "pair"] ["play", "casting"] (defScope sMe) := ⟨rfl, rfl, rfl, by decide +kernel, rfl, by decide +kernel, by decide +kernel⟩
def spMe (C : Addr) : Sp := fun vs H Q _ => ∃ (a b : Addr) (p : Uw02.Play) (c : List Nat), vs = [.ref a, .ref b] ∧ PR C H a p ∧ Good p ∧ NL H b c ∧ c.length = p.dress.length ∧ RetNL H Q (meetingL p c)
theorem ok_Me {f : Addr} {fd : FuncData} (F : Fun K "meeting" "meeting" sMe f fd) (D1 : DefOk P w K mg base "clashing_pairs" 4 ["play"] (spCP C)) : FnOk P w K mg base CX0 5 f fd ["play", "casting"] (spMe C) := by
  refine F.ok scMe (fun vs H Q E h => ?_) (fun cdv A outer s H vs Q E hr h => ?_)
  · obtain ⟨a, b, p, c, rfl, _⟩ := h
    rfl
  · obtain ⟨a, b, p, c, rfl, R, g, hc, al, k⟩ := h
    refine ⟨_, pss_cons (ps_for PassesOwn.never rfl (pi_list (pe_def D1 hr rfl (pa_cons (pv 0) pa_nil))) (pg_name (i := 2) scMe.nd rfl (Or.inl rfl))
        (pss_one (ps_if (pt_cmpR op_eq (pe_ix ix_list (pv 1) (pe_ix ix_list (pv 2) pe_int (fun _ _ => rfl)) (fun _ _ => rfl)) (pe_ix ix_list (pv 1) (pe_ix ix_list (pv 2) pe_int (fun _ _ => rfl)) (fun _ _ => rfl)) (nomark _))
          (pss_one (ps_ret (pe_lst (pa_cons pe_int (pa_cons (pe_ix ix_list (pv 2) pe_int (fun _ _ => rfl)) (pa_cons (pe_ix ix_list (pv 2) pe_int (fun _ _ => rfl)) pa_nil)))))) pss_nil)))
      (pss_one (ps_ret (pe_lst pa_nil))), ?_⟩
    refine ⟨_, rfl, a, p, rfl, R, g, fun H1 q as s1 n1 hq _ => ?_⟩
    refine ⟨q, rfl, ⟨_, SqL.of hq.lst⟩, for_list (K := K) (a := q) (xs := as.map V.ref) (fun i σ H' => ∃ v : Option V, σ = [some (.ref a), some (.ref b), v] ∧ H' = H1 ∧ ∀ y ∈ (cpairs p).take i, meetP c y = false)
      ⟨none, rfl, rfl, fun y hy => by simp at hy⟩ (fun i σ H' _ ⟨_, _, e, _⟩ => by rw [e]; exact SqL.of hq.lst) ?_ ?_⟩
    · rintro i y σ H' hi ⟨v, rfl, rfl, hn⟩
      rw [List.getElem?_map, Option.map_eq_some_iff] at hi
      obtain ⟨r, hri, rfl⟩ := hi
      obtain ⟨x, hx, hrow⟩ := hq.get hri
      obtain ⟨a0, b0, i0, j0, rfl, c1, c2, _⟩ := cpairs_mem (List.mem_of_getElem? hx)
      refine ⟨_, rfl, _, rfl, _, _, _, _, rfl, rfl, SqL.of hrow, at_of (j := 0) (v := nv a0) rfl rfl, _, _, _, _, rfl, rfl, SqL.of (hc.same s1), at_nat (get_of_lt (i := a0) (by omega)),
        _, rfl, _, rfl, _, _, _, _, rfl, rfl, SqL.of hrow, at_of (j := 1) (v := nv b0) rfl rfl, _, _, _, _, rfl, rfl, SqL.of (hc.same s1), at_nat (get_of_lt (i := b0) (by omega)), rfl, _, rfl, ?_⟩
      by_cases e : c.getD a0 0 = c.getD b0 0
      · refine ift (decide_eq_true (by rw [e])) ⟨_, rfl, _, _, _, _, rfl, rfl, SqL.of hrow, at_of (j := 0) (v := nv a0) rfl rfl, _, rfl, _, _, _, _, rfl, rfl, SqL.of hrow, at_of (j := 1) (v := nv b0) rfl rfl, by show 3 ≤ sizeLine; decide, fun q2 nq => ?_⟩
        have eu : meetingL p c = [2, a0, b0] := by
          unfold meetingL
          rw [find_at hx hn (by show (c.getD a0 0 == c.getD b0 0) = true; rw [e]; exact beq_self_eq_true _)]
          rfl
        refine k _ _ (sUpd s1 (s1.free nq)) (s1.free nq) ?_
        rw [eu]
        exact upd_same
      · refine ifn (decide_eq_false fun z => e (nv_inj z)) ⟨_, rfl, rfl, fun y hy => ?_⟩
        rw [take_more hx, List.mem_append] at hy
        rcases hy with hy | hy
        · exact hn y hy
        · rw [List.mem_singleton.mp hy]
          show (c.getD a0 0 == c.getD b0 0) = false
          exact beq_eq_false_iff_ne.mpr e
    · rintro σ H' ⟨v, rfl, rfl, hn⟩
      rw [List.length_map, hq.len, List.take_length] at hn
      refine ⟨by show 0 ≤ sizeLine; decide, fun q2 nq => ?_⟩
      have eu : meetingL p c = [] := by
        unfold meetingL
        rw [find_not hn]
      refine k _ _ (sUpd s1 (s1.free nq)) (s1.free nq) ?_
      rw [eu]
      exact upd_same
/-! ### fault -/
abbrev sFa : Stmt := top 17
theorem scFa : FnScope ["play", "casting", "wrong"] ["play", "casting"] (defScope sFa) := ⟨rfl, rfl, rfl, by decide +kernel, rfl, by decide +kernel, by decide +kernel⟩
def spFa (C : Addr) : Sp := fun vs H Q _ => ∃ (a b : Addr) (p : Uw02.Play) (c : List Nat), vs = [.ref a, .ref b] ∧ PR C H a p ∧ Good p ∧ NL H b c ∧ c.length = p.dress.length ∧ (∀ x ∈ c, x < p.players.length) ∧ RetNL H Q (wrongL p c)
theorem ok_Fa {f : Addr} {fd : FuncData} (F : Fun K "fault" "fault" sFa f fd) (T : Txt K mg C) (D1 : DefOk P w K mg base "unable" 2 ["play", "casting"] (spUn C)) (D2 : DefOk P w K mg base "meeting" 5 ["play", "casting"] (spMe C)) : FnOk P w K mg base CX0 6 f fd ["play", "casting"] (spFa C) := by
  refine F.ok scFa (fun vs H Q E h => ?_) (fun cdv A outer s H vs Q E hr h => ?_)
  · obtain ⟨a, b, p, c, rfl, _⟩ := h
    rfl
  · obtain ⟨a, b, p, c, rfl, R, g, hc, al, at', k⟩ := h
    have hr1 : Room 2 _ := hr.mono (by decide)
    refine ⟨_, pss_cons (ps_set (i := 2) scFa.nd rfl (Or.inl rfl) (pe_def D1 hr1 rfl (pa_cons (pv 0) (pa_cons (pv 1) pa_nil))))
      (pss_cons (ps_if (pt_cmpR op_gt (pe_callB call_len_seq (by rfl) T.len PySem.boot_len (pa_cons (pv 2) pa_nil)) pe_int (nomark _)) (pss_one (ps_ret (pv 2))) pss_nil)
      (pss_one (ps_ret (pe_def D2 hr rfl (pa_cons (pv 0) (pa_cons (pv 1) pa_nil)))))), ?_⟩
    rw [← fault_wrong al] at k
    refine ⟨_, rfl, _, rfl, a, b, p, c, rfl, R, g, hc, al, at', fun H1 q s1 n1 hq => ?_⟩
    refine ⟨_, rfl, _, _, rfl, .inl (SqL.of hq), _, _, rfl, rfl, _, rfl, ?_⟩
    by_cases e : (unableL p c).length > 0
    · refine ift (decide_eq_true (by rw [List.length_map]; omega)) ⟨_, rfl, ?_⟩
      unfold faultL at k
      rw [if_pos e] at k
      exact k _ _ s1 n1 hq
    · refine ifn (decide_eq_false (by rw [List.length_map]; omega)) ⟨_, rfl, _, rfl, a, b, p, c, rfl, R.same s1, g, hc.same s1, al, ?_⟩
      unfold faultL at k
      rw [if_neg e] at k
      exact k.from s1
/-! ### fits -/
abbrev sFi : Stmt := top 18
theorem scFi : FnScope ["foes", "casting", "role", "player", "low"] ["foes", "casting", "role", "player"] (defScope sFi) := ⟨rfl, rfl, rfl, by decide +kernel, rfl, by decide +kernel, by decide +kernel⟩
def spFi : Sp := fun vs H Q _ => ∃ (F b : Addr) (fs : List (List Nat)) (c : List Nat) (r x : Nat), vs = [.ref F, .ref b, nv r, nv x] ∧ LL H F fs ∧ NL H b c ∧ r < fs.length ∧ (∀ l ∈ fs.getD r [], l < c.length) ∧ RetV H Q (.bl (fits fs c r x))
theorem ok_Fi {f : Addr} {fd : FuncData} (F : Fun K "fits" "fits" sFi f fd) : FnOk P w K mg base CX0 1 f fd ["foes", "casting", "role", "player"] spFi := by
  refine F.ok scFi (fun vs H Q E h => ?_) (fun cdv A outer s H vs Q E hr h => ?_)
  · obtain ⟨F, b, fs, c, r, x, rfl, _⟩ := h
    rfl
  · obtain ⟨F', b, fs, c, r, x, rfl, ⟨as, hF⟩, hc, hrl, hlt, k⟩ := h
    refine ⟨_, pss_cons (ps_for PassesOwn.never rfl (pi_list (pe_ix ix_list (pv 0) (pv 2) (fun _ _ => rfl))) (pg_name (i := 4) scFi.nd rfl (Or.inl rfl))
        (pss_one (ps_if (pt_cmpR op_eq (pe_ix ix_list (pv 1) (pv 4) (fun _ _ => rfl)) (pv 3) (nomark _)) (pss_one (ps_ret pe_bl)) pss_nil)))
      (pss_one (ps_ret pe_bl)), ?_⟩
    obtain ⟨fr, hfr⟩ := get_lt hrl
    have efr : fs.getD r [] = fr := by rw [List.getD_eq_getElem?_getD, hfr]; rfl
    rw [efr] at hlt
    obtain ⟨q, hq, hqr⟩ := hF.row r fr hfr
    refine ⟨_, rfl, _, rfl, _, _, _, _, rfl, rfl, SqL.of hF.lst, at_ref hq, ?_⟩
    refine ⟨q, rfl, ⟨_, SqL.of hqr⟩, for_list (K := K) (a := q) (xs := fr.map nv) (fun i σ H' => ∃ v : Option V, σ = [some (.ref F'), some (.ref b), some (nv r), some (nv x), v] ∧ H' = H ∧ ∀ l ∈ fr.take i, (c.getD l 0 == x) = false)
      ⟨none, rfl, rfl, fun y hy => by simp at hy⟩ (fun i σ H' _ ⟨_, _, e, _⟩ => by rw [e]; exact SqL.of hqr) ?_ ?_⟩
    · rintro i y σ H' hi ⟨v, rfl, rfl, hn⟩
      rw [List.getElem?_map, Option.map_eq_some_iff] at hi
      obtain ⟨l, hl, rfl⟩ := hi
      have hll := hlt l (List.mem_of_getElem? hl)
      refine ⟨_, rfl, _, rfl, _, _, _, _, rfl, rfl, SqL.of hc, at_nat (get_of_lt hll), _, rfl, rfl, _, rfl, ?_⟩
      by_cases e : c.getD l 0 = x
      · refine ift (decide_eq_true (by rw [e])) ?_
        have ef : fits fs c r x = false := by
          unfold fits
          rw [efr, ← Bool.not_eq_true, List.all_eq_true]
          intro z
          have := z l (List.mem_of_getElem? hl)
          rw [e] at this
          simp at this
        rw [ef] at k
        exact k _ (Same.refl _)
      · refine ifn (decide_eq_false fun z => e (nv_inj z)) ⟨_, rfl, rfl, fun y hy => ?_⟩
        rw [take_more hl, List.mem_append] at hy
        rcases hy with hy | hy
        · exact hn y hy
        · rw [List.mem_singleton.mp hy]
          exact beq_eq_false_iff_ne.mpr e
    · rintro σ H' ⟨v, rfl, rfl, hn⟩
      rw [List.length_map, List.take_length] at hn
      have ef : fits fs c r x = true := by
        unfold fits
        rw [efr, List.all_eq_true]
        intro l hl
        rw [hn l hl]
        rfl
      rw [ef] at k
      exact k _ (Same.refl _)
/-! ### one_role_more -/
abbrev sOm : Stmt := top 19
theorem scOm : FnScope ["play", "foes", "castings", "role", "longer", "casting", "player"] ["play", "foes", "castings", "role"] (defScope sOm) := ⟨rfl, rfl, rfl, by decide +kernel, rfl, by decide +kernel, by decide +kernel⟩
def spOm (C : Addr) : Sp := fun vs H Q _ => ∃ (a F b : Addr) (p : Uw02.Play) (fs css : List (List Nat)) (r : Nat), vs = [.ref a, .ref F, .ref b, nv r] ∧ PR C H a p ∧ Good p ∧ LL H F fs ∧ LL H b css ∧ r < p.dress.length ∧ r < fs.length ∧ (∀ l ∈ fs.getD r [], l < r) ∧
  (∀ c ∈ css, c.length = r) ∧ css.length ≤ 15625 ∧ RetLL H Q (oneMore p fs css r)
theorem ok_Om {f : Addr} {fd : FuncData} (F : Fun K "one_role_more" "one_role_more" sOm f fd) (T : Txt K mg C) (D1 : DefOk P w K mg base "can_play" 1 ["play", "player", "role"] (spCn C)) (D2 : DefOk P w K mg base "fits" 1 ["foes", "casting", "role", "player"] spFi) :
    FnOk P w K mg base CX0 2 f fd ["play", "foes", "castings", "role"] (spOm C) := by
  refine F.ok scOm (fun vs H Q E h => ?_) (fun cdv A outer s H vs Q E hr h => ?_)
  · obtain ⟨a, F, b, p, fs, css, r, rfl, _⟩ := h
    rfl
  · obtain ⟨a, F', b, p, fs, css, r, rfl, R, g, hF, ⟨as, hA⟩, hr1, hr2, hlt, hlen, hsz, k⟩ := h
    refine ⟨_, pss_cons (ps_set (i := 4) scOm.nd rfl (Or.inl rfl) (pe_lst pa_nil))
      (pss_cons (ps_for PassesOwn.never rfl (pi_list (pv 2)) (pg_name (i := 5) scOm.nd rfl (Or.inl rfl))
        (pss_one (ps_for PassesOwn.never rfl (pi_range1 (by rfl) T.range (pa_cons (pe_callB call_len_seq (by rfl) T.len PySem.boot_len (pa_cons (pe_fld (pv 0) rfl) pa_nil)) pa_nil)) (pg_name (i := 6) scOm.nd rfl (Or.inl rfl))
          (pss_one (ps_if (PW.pt (pw_and (pt_val (pe_def D1 hr rfl (pa_cons (pv 0) (pa_cons (pv 6) (pa_cons (pv 3) pa_nil))))) (pw_and1 (pt_val (pe_def D2 hr rfl (pa_cons (pv 1) (pa_cons (pv 5) (pa_cons (pv 3) (pa_cons (pv 6) pa_nil)))))))))
            (pss_one (ps_expr (pe_bm PySem.F.plainAttrs_list PySem.F.slot_list_append PySem.F.type_list_append mt_append (pv 4) (pa_cons (pe_op op_cat (pv 5) (pe_lst (pa_cons (pv 6) pa_nil))) pa_nil)))) pss_nil)))))
      (pss_one (ps_ret (pv 4)))), ?_⟩
    have R0 := R
    obtain ⟨d, l, o, w', f', R⟩ := R
    obtain ⟨dx, hO⟩ := R.obj
    have dl := g.dl
    have pl := g.pl
    have hl : ((p.players.map fun x => x.wage).map nv).length = p.players.length := by rw [List.length_map, List.length_map]
    refine ⟨by show 0 ≤ sizeLine; decide, fun q nq => ?_⟩
    have s0 : Same H (upd H q (.lst [])) := sNew nq
    refine ⟨_, rfl, b, rfl, ⟨_, SqL.of (hA.same s0).lst⟩, for_list (K := K) (a := b) (xs := as.map V.ref) (fun i σ H' => ∃ (bs : List Addr) (v5 v6 : Option V), σ = [some (.ref a), some (.ref F'), some (.ref b), some (nv r), some (.ref q), v5, v6] ∧ Same H H' ∧ LLs H' q bs (oneMore p fs (css.take i) r) ∧ ∀ y ∈ bs, y ≠ q)
      ⟨[], none, none, rfl, s0, ⟨upd_same, rfl, fun i x e => by simp [oneMore] at e⟩, fun y hy => by simp at hy⟩ (fun i σ H' _ ⟨_, _, _, _, s1, _⟩ => SqL.of (hA.same s1).lst) ?_ ?_⟩
    · rintro i y σ H1 hi ⟨bs, v5, v6, rfl, s1, hB, hN⟩
      rw [List.getElem?_map, Option.map_eq_some_iff] at hi
      obtain ⟨y, hy, rfl⟩ := hi
      obtain ⟨c, hc, hrow⟩ := hA.get hy
      have hcl := hlen c (List.mem_of_getElem? hc)
      have hi2 := (List.getElem?_eq_some_iff.mp hc).1
      refine ⟨_, rfl, _, C, dx, _, _, rfl, s1 _ _ hO, T.cl, T.nW, pF_wages .., _, _, rfl, .inl (SqL.of (R.wa.same s1)), ?_⟩
      rw [hl]
      refine ⟨_, rfl, by omega, by omega, for_range (lo := 0) (n := ((p.players.length : Nat) : Int).toNat) (fun t σ H' => ∃ (bs : List Addr) (v6 : Option V), σ = [some (.ref a), some (.ref F'), some (.ref b), some (nv r), some (.ref q), some (.ref y), v6] ∧ Same H H' ∧ LLs H' q bs (oneMore p fs (css.take i) r ++ part p fs c r t) ∧ ∀ y ∈ bs, y ≠ q)
        ⟨bs, v6, rfl, s1, by rw [show part p fs c r 0 = [] from rfl, List.append_nil]; exact hB, hN⟩ ?_ ?_⟩
      · rintro t σ H2 ht ⟨bs, v6, rfl, s2, hB2, hN2⟩
        have ht2 : t < p.players.length := by omega
        rw [show ((0 : Int) + (t : Nat)) = ((t : Nat) : Int) from Int.zero_add _]
        have hm := part_more p fs c r t
        have hsize : (oneMore p fs (css.take i) r ++ part p fs c r t).length ≤ 100000 := by
          rw [List.length_append]
          have z1 := oneMore_len p fs r (css.take i)
          have z2 := part_len p fs c r t
          have z3 : (css.take i).length * p.players.length ≤ 15625 * 5 := Nat.mul_le_mul (by rw [List.length_take]; omega) pl
          omega
        refine ⟨_, rfl, _, rfl, _, rfl, a, p, t, r, rfl, R0.same s2, g, ht2, hr1, fun H3 s3 => ⟨_, rfl, ?_⟩⟩
        have s23 := s2.trans s3
        cases hcp : canPlay p t r with
        | false =>
          refine ifn rfl (ifn rfl ⟨bs, _, rfl, s23, ?_, hN2⟩)
          rw [hm, hcp]
          simp only [Bool.false_and, Bool.false_eq_true, if_false, List.append_nil]
          exact hB2.same s3
        | true =>
          refine ift rfl ⟨_, rfl, _, rfl, _, rfl, _, rfl, F', y, fs, c, r, t, rfl, hF.same s23, hrow.same s23, hr2, fun l hl => by have := hlt l hl; omega, fun H4 s4 => ⟨_, rfl, ?_⟩⟩
          have s34 : Same H2 H4 := s3.trans s4
          have s24 : Same H H4 := s2.trans s34
          cases hft : fits fs c r t with
          | false =>
            refine ifn rfl ⟨bs, _, rfl, s24, ?_, hN2⟩
            rw [hm, hcp, hft]
            simp only [Bool.and_false, Bool.false_eq_true, if_false, List.append_nil]
            exact hB2.same s34
          | true =>
            refine ift rfl ⟨_, rfl, .inl ⟨rfl, _, SqL.of (hB2.same s34).lst⟩, _, rfl, _, rfl, by show 1 ≤ sizeLine; decide, fun l1 n1 => ?_⟩
            have s5 : Same H4 (upd H4 l1 (.lst [nv t])) := sNew n1
            refine ⟨y, l1, _, _, rfl, rfl, (hrow.same s24).same s5, upd_same, ?_, fun l2 n2 => ?_⟩
            · rw [List.length_map]
              show _ + 1 ≤ _
              exact line_le (by omega)
            have s6 := sNew (o := .lst (c.map nv ++ [nv t])) n2
            have s46 : Same H2 (upd (upd H4 l1 (.lst [nv t])) l2 (.lst (c.map nv ++ [nv t]))) := (s34.trans s5).trans s6
            have hB6 := hB2.same s46
            refine ⟨q, _, _, rfl, rfl, hB6.lst, by rw [List.length_map, hB6.len]; exact line_nat (by omega), ?_⟩
            have nl2 : l2 ≠ q := fun e => by
              have := (hB2.same (s34.trans s5)).lst
              rw [← e, n2] at this
              cases this
            refine ⟨bs ++ [l2], _, rfl, sUpd (s2.trans s46) nq, ?_, fun y hy => ?_⟩
            · rw [hm, hcp, hft]
              simp only [Bool.and_true, if_true, ← List.append_assoc]
              refine hB6.more ?_ hN2 nl2
              unfold NL
              rw [upd_same, List.map_append] <;> rfl
            · rcases List.mem_append.mp hy with m | m
              · exact hN2 y m
              · rw [List.mem_singleton.mp m]
                exact nl2
      · rintro σ H2 ⟨bs, v6, rfl, s2, hB2, hN2⟩
        rw [show ((p.players.length : Nat) : Int).toNat = p.players.length by omega] at hB2
        exact ⟨bs, _, _, rfl, s2, by rw [oneMore_more hc]; exact hB2, hN2⟩
    · rintro σ H1 ⟨bs, v5, v6, rfl, s1, hB, hN⟩
      rw [List.length_map, hA.len, List.take_length] at hB
      exact ⟨_, rfl, k _ _ s1 nq ⟨bs, hB⟩⟩
/-! ### right_castings -/
abbrev sRc : Stmt := top 20
theorem scRc : FnScope ["play", "foes", "castings", "role"] ["play"] (defScope sRc) := ⟨rfl, rfl, rfl, by decide +kernel, rfl, by decide +kernel, by decide +kernel⟩
def spRc (C : Addr) : Sp := fun vs H Q _ => ∃ (a : Addr) (p : Uw02.Play), vs = [.ref a] ∧ PR C H a p ∧ Good p ∧ RetLL H Q p.casts
theorem ok_Rc {f : Addr} {fd : FuncData} (F : Fun K "right_castings" "right_castings" sRc f fd) (T : Txt K mg C) (D1 : DefOk P w K mg base "lower_foes" 5 ["play"] (spLF C)) (D2 : DefOk P w K mg base "one_role_more" 2 ["play", "foes", "castings", "role"] (spOm C)) :
    FnOk P w K mg base CX0 6 f fd ["play"] (spRc C) := by
  refine F.ok scRc (fun vs H Q E h => ?_) (fun cdv A outer s H vs Q E hr h => ?_)
  · obtain ⟨a, p, rfl, _⟩ := h
    rfl
  · obtain ⟨a, p, rfl, R, g, k⟩ := h
    have hr1 : Room 2 _ := hr.mono (by decide)
    refine ⟨_, pss_cons (ps_set (i := 1) scRc.nd rfl (Or.inl rfl) (pe_def D1 hr rfl (pa_cons (pv 0) pa_nil)))
      (pss_cons (ps_set (i := 2) scRc.nd rfl (Or.inl rfl) (pe_lst (pa_cons (pe_lst pa_nil) pa_nil)))
      (pss_cons (ps_for PassesOwn.never rfl (pi_range1 (by rfl) T.range (pa_cons (pe_callB call_len_seq (by rfl) T.len PySem.boot_len (pa_cons (pe_fld (pv 0) rfl) pa_nil)) pa_nil)) (pg_name (i := 3) scRc.nd rfl (Or.inl rfl))
        (pss_one (ps_set (i := 2) scRc.nd rfl (Or.inl rfl) (pe_def D2 hr1 rfl (pa_cons (pv 0) (pa_cons (pv 1) (pa_cons (pv 2) (pa_cons (pv 3) pa_nil))))))))
      (pss_one (ps_ret (pv 2))))), ?_⟩
    have R0 := R
    obtain ⟨d, l, o, w', f', R⟩ := R
    obtain ⟨dx, hO⟩ := R.obj
    have dl := g.dl
    have pl := g.pl
    have hd : (p.dress.map nv).length = p.dress.length := List.length_map ..
    refine ⟨_, rfl, a, p, rfl, R0, g, fun H1 F' s1 nF hF => ?_⟩
    refine ⟨by show 0 ≤ sizeLine; decide, fun q1 n1 => ⟨by show 1 ≤ sizeLine; decide, fun q n2 => ?_⟩⟩
    have s2 : Same H1 (upd H1 q1 (.lst [])) := sNew n1
    have s3 := sNew (o := .lst [.ref q1]) n2
    have s13 : Same H1 (upd (upd H1 q1 (.lst [])) q (.lst [.ref q1])) := s2.trans s3
    have s03 : Same H (upd (upd H1 q1 (.lst [])) q (.lst [.ref q1])) := s1.trans s13
    have nq1 : q1 ≠ q := fun e => by rw [← e, upd_same] at n2; cases n2
    refine ⟨_, rfl, _, C, dx, _, _, rfl, s03 _ _ hO, T.cl, T.nD, pF_dress .., _, _, rfl, .inl (SqL.of (R.dr.same s03)), ?_⟩
    rw [hd]
    refine ⟨_, rfl, by omega, by omega, for_range (lo := 0) (n := ((p.dress.length : Nat) : Int).toNat) (fun i σ H' => ∃ (b : Addr) (v : Option V), σ = [some (.ref a), some (.ref F'), some (.ref b), v] ∧ Same H1 H' ∧ H b = none ∧ LL H' b (rc p (foes p) i))
      ⟨q, none, rfl, s13, s1.free (s2.free n2), [q1], upd_same, rfl, fun i x e => ?_⟩ ?_ ?_⟩
    · match i, e with
      | 0, e =>
        have e : ([] : List Nat) = x := Option.some.inj e
        subst e
        exact ⟨q1, rfl, by unfold NL; rw [upd_ne nq1, upd_same] <;> rfl⟩
      | i + 1, e => simp [rc] at e
    · rintro i σ H2 hi ⟨b, v, rfl, s4, nb, hL⟩
      have hi2 : i < p.dress.length := by omega
      rw [show ((0 : Int) + (i : Nat)) = ((i : Nat) : Int) from Int.zero_add _]
      have s14 := s1.trans s4
      refine ⟨_, rfl, _, rfl, _, rfl, _, rfl, a, F', b, p, foes p, rc p (foes p) i, i, rfl, R0.same s14, g, hF.same s4, hL, hi2, by unfold foes; rw [foesOf_len]; exact hi2, foes_below i, fun c hc => rc_lens hc, ?_, fun H3 b2 s5 nb2 hL2 => ?_⟩
      · exact Nat.le_trans (rc_len p (foes p) i) (pow_le6 pl (by omega))
      · exact ⟨b2, _, rfl, s4.trans s5, s14.free nb2, hL2⟩
    · rintro σ H2 ⟨b, v, rfl, s4, nb, hL⟩
      rw [show ((p.dress.length : Nat) : Int).toNat = p.dress.length by omega, rc_casts] at hL
      exact ⟨_, rfl, k _ _ (s1.trans s4) nb hL⟩
end
end RD
namespace RD
open PySem PySem.Spec PyProof.Rows L2
theorem min_toI {ms : List Nat} {m : Int} (h1 : m ∈ toI ms) (h2 : ∀ y, y ∈ toI ms → m ≤ y) : m = ((minOf ms : Nat) : Int) := by
  unfold toI at h1 h2
  rw [List.mem_map] at h1
  obtain ⟨x, hx, rfl⟩ := h1
  have e : x = minOf ms := minOf_unique hx fun y hy => by
    have := h2 _ (List.mem_map.mpr ⟨y, hy, rfl⟩)
    omega
  rw [e]
/-- a number, each row behind how many numbers it has -/
def outR (v : Int) (rows : List (List Nat)) : List Int := v :: rows.flatMap fun w => (w.length : Int) :: toI w
theorem outR_more {v : Int} {rows : List (List Nat)} {i : Nat} {x : List Nat} (h : rows[i]? = some x) : outR v (rows.take (i + 1)) = (outR v (rows.take i) ++ [(x.length : Int)]) ++ toI x := by
  unfold outR
  rw [take_more h, List.flatMap_append]
  simp
theorem outR_len {v : Int} {rows : List (List Nat)} {i : Nat} {x : List Nat} (h : rows[i]? = some x) : (outR v (rows.take i)).length + 1 + x.length ≤ (outR v rows).length := by
  have e : rows = rows.take (i + 1) ++ rows.drop (i + 1) := (List.take_append_drop _ _).symm
  have h2 : (outR v (rows.take (i + 1))).length ≤ (outR v rows).length := by
    conv => rhs; rw [e]
    unfold outR
    rw [List.flatMap_append, List.length_cons, List.length_cons, List.length_append]
    omega
  rw [outR_more h, List.length_append, List.length_append] at h2
  unfold toI at h2
  rw [List.length_map] at h2
  exact h2
theorem LL1 {H : Hp} {q a : Addr} {x : List Nat} (h : H q = some (.lst [.ref a])) (h1 : NL H a x) : LL H q [x] := ⟨[a], h, rfl, fun i y e => by
  match i, e with
  | 0, e => obtain rfl := Option.some.inj e; exact ⟨a, rfl, h1⟩
  | i + 1, e => simp at e⟩
theorem LL2 {H : Hp} {q a b : Addr} {x y : List Nat} (h : H q = some (.lst [.ref a, .ref b])) (h1 : NL H a x) (h2 : NL H b y) : LL H q [x, y] := ⟨[a, b], h, rfl, fun i z e => by
  match i, e with
  | 0, e => obtain rfl := Option.some.inj e; exact ⟨a, rfl, h1⟩
  | 1, e => obtain rfl := Option.some.inj e; exact ⟨b, rfl, h2⟩
  | i + 2, e => simp at e⟩
theorem LL3 {H : Hp} {q a b c : Addr} {x y z : List Nat} (h : H q = some (.lst [.ref a, .ref b, .ref c])) (h1 : NL H a x) (h2 : NL H b y) (h3 : NL H c z) : LL H q [x, y, z] := ⟨[a, b, c], h, rfl, fun i t e => by
  match i, e with
  | 0, e => obtain rfl := Option.some.inj e; exact ⟨a, rfl, h1⟩
  | 1, e => obtain rfl := Option.some.inj e; exact ⟨b, rfl, h2⟩
  | 2, e => obtain rfl := Option.some.inj e; exact ⟨c, rfl, h3⟩
  | i + 3, e => simp at e⟩
theorem filter_more {α : Type} {Q : α → Bool} {l : List α} {i : Nat} {x : α} (h : l[i]? = some x) : (l.take (i + 1)).filter Q = (l.take i).filter Q ++ (if Q x = true then [x] else []) := by
  rw [take_more h, List.filter_append]
  congr 1
  cases e : Q x <;> simp [e]
section
variable {P : Program} {w : World} {K : PySem.W.Frag} {mg : Str → Option Value} {base : Heap} {C : Addr}
/-- len's reading -/
abbrev rLen (K : PySem.W.Frag) : List V → Hp → VK → Prop := fun xs H Q => ∃ p ys, xs = [.ref p] ∧ (SqL K H p ys ∨ SqT K H p ys) ∧ Q (.int ys.length) H
/-! ### costs_of -/
abbrev sCs : Stmt := top 22
theorem scCs : FnScope ["play", "castings", "casting"] ["play", "castings"] (defScope sCs) := ⟨rfl, rfl, rfl, by decide +kernel, rfl, by decide +kernel, by decide +kernel⟩
def spCs (C : Addr) : Sp := fun vs H Q _ => ∃ (a b : Addr) (p : Uw02.Play) (css : List (List Nat)), vs = [.ref a, .ref b] ∧ PR C H a p ∧ Good p ∧ LL H b css ∧ (∀ c ∈ css, Able p c) ∧ css.length ≤ 15625 ∧ RetNL H Q (css.map p.cost)
theorem ok_Cs {f : Addr} {fd : FuncData} (F : Fun K "costs_of" "costs_of" sCs f fd) (D1 : DefOk P w K mg base "cost" 3 ["play", "casting"] (spCo C)) : FnOk P w K mg base CX0 4 f fd ["play", "castings"] (spCs C) := by
  refine F.ok scCs (fun vs H Q E h => ?_) (fun cdv A outer s H vs Q E hr h => ?_)
  · obtain ⟨a, b, p, css, rfl, _⟩ := h
    rfl
  · obtain ⟨a, b, p, css, rfl, R, g, ⟨as, hA⟩, hab, hsz, k⟩ := h
    refine ⟨_, pss_one (ps_ret (pe_lc (own := [("casting", 2)]) (g := gName 2) (te := tCall (spCo C) [] E0 (tCons (tVar 0) (tCons (tVar 2) tNil))) rfl scCs.nd (pi_list (pv 1))
      (blkOk_by (N := ["play", "castings", "casting"]) (sc := defScope sCs) (by decide +kernel)) (fun _ _ _ _ _ => pg_name (i := 2) scCs.nd rfl (Or.inl rfl))
      (fun _ _ _ _ _ => pts_nil) (fun _ _ _ _ _ => pe_def D1 hr rfl (pa_cons (pv 0) (pa_cons (pv 2) pa_nil))))), ?_⟩
    refine ⟨_, rfl, b, rfl, ⟨_, SqL.of hA.lst⟩, fun D nD => lc_list (K := K) (a := b) (xs := as.map V.ref) (fun i H' => Same H H' ∧ NL H' D ((css.take i).map p.cost))
      ⟨sNew nD, upd_same⟩ (fun i H' _ h => SqL.of (hA.same h.1).lst) ?_ ?_⟩
    · rintro i x H' hi ⟨s1, hD⟩
      rw [List.getElem?_map, Option.map_eq_some_iff] at hi
      obtain ⟨y, hy, rfl⟩ := hi
      obtain ⟨c, hc, hrow⟩ := hA.get hy
      have hi2 := (List.getElem?_eq_some_iff.mp hc).1
      refine ⟨rfl, ?_⟩
      dsimp only [tYes]
      rw [if_pos rfl]
      refine ⟨_, rfl, _, rfl, a, y, p, c, rfl, R.same s1, g, hrow.same s1, hab c (List.mem_of_getElem? hc), fun H2 s2 => ⟨_, hD.same s2, ?_, ?_⟩⟩
      · rw [List.length_map, List.length_map, List.length_take]
        exact line_nat (by omega)
      · refine ⟨sUpd (s1.trans s2) nD, ?_⟩
        unfold NL
        rw [upd_same, take_more hc, List.map_append, List.map_append] <;> rfl
    · rintro H' ⟨s1, hD⟩
      rw [List.length_map, hA.len, List.take_length] at hD
      exact k _ _ s1 nD hD
/-! ### sizes_of -/
abbrev sSz : Stmt := top 23
theorem scSz : FnScope ["play", "castings", "casting"] ["play", "castings"] (defScope sSz) := ⟨rfl, rfl, rfl, by decide +kernel, rfl, by decide +kernel, by decide +kernel⟩
def spSz (C : Addr) : Sp := fun vs H Q _ => ∃ (a b : Addr) (p : Uw02.Play) (css : List (List Nat)), vs = [.ref a, .ref b] ∧ PR C H a p ∧ Good p ∧ LL H b css ∧ css.length ≤ 15625 ∧ RetNL H Q (css.map (sizeOf p))
theorem ok_Sz {f : Addr} {fd : FuncData} (F : Fun K "sizes_of" "sizes_of" sSz f fd) (T : Txt K mg C) (D1 : DefOk P w K mg base "engaged" 1 ["play", "casting"] (spEn C)) : FnOk P w K mg base CX0 2 f fd ["play", "castings"] (spSz C) := by
  refine F.ok scSz (fun vs H Q E h => ?_) (fun cdv A outer s H vs Q E hr h => ?_)
  · obtain ⟨a, b, p, css, rfl, _⟩ := h
    rfl
  · obtain ⟨a, b, p, css, rfl, R, g, ⟨as, hA⟩, hsz, k⟩ := h
    refine ⟨_, pss_one (ps_ret (pe_lc (own := [("casting", 2)]) (g := gName 2) (te := tCB (rLen K) (tCons (tCall (spEn C) [] E0 (tCons (tVar 0) (tCons (tVar 2) tNil))) tNil)) rfl scSz.nd (pi_list (pv 1))
      (blkOk_by (N := ["play", "castings", "casting"]) (sc := defScope sSz) (by decide +kernel)) (fun _ _ _ _ _ => pg_name (i := 2) scSz.nd rfl (Or.inl rfl))
      (fun _ _ _ _ _ => pts_nil) (fun _ _ _ _ _ => pe_callB call_len_seq (by rfl) T.len PySem.boot_len (pa_cons (pe_def D1 hr rfl (pa_cons (pv 0) (pa_cons (pv 2) pa_nil))) pa_nil)))), ?_⟩
    refine ⟨_, rfl, b, rfl, ⟨_, SqL.of hA.lst⟩, fun D nD => lc_list (K := K) (a := b) (xs := as.map V.ref) (fun i H' => Same H H' ∧ NL H' D ((css.take i).map (sizeOf p)))
      ⟨sNew nD, upd_same⟩ (fun i H' _ h => SqL.of (hA.same h.1).lst) ?_ ?_⟩
    · rintro i x H' hi ⟨s1, hD⟩
      rw [List.getElem?_map, Option.map_eq_some_iff] at hi
      obtain ⟨y, hy, rfl⟩ := hi
      obtain ⟨c, hc, hrow⟩ := hA.get hy
      have hi2 := (List.getElem?_eq_some_iff.mp hc).1
      refine ⟨rfl, ?_⟩
      dsimp only [tYes]
      rw [if_pos rfl]
      refine ⟨_, rfl, _, rfl, a, y, p, c, rfl, R.same s1, g, hrow.same s1, fun H2 r s2 nr hr2 => ⟨_, _, rfl, .inl (SqL.of hr2), _, hD.same s2, ?_, ?_⟩⟩
      · rw [List.length_map, List.length_map, List.length_take]
        exact line_nat (by omega)
      · refine ⟨sUpd (s1.trans s2) nD, ?_⟩
        unfold NL
        rw [upd_same, take_more hc, List.map_append, List.map_append, List.length_map] <;> rfl
    · rintro H' ⟨s1, hD⟩
      rw [List.length_map, hA.len, List.take_length] at hD
      exact k _ _ s1 nD hD
/-! ### least_ones -/
abbrev sLo : Stmt := top 24
theorem scLo : FnScope ["castings", "measures", "least", "at"] ["castings", "measures"] (defScope sLo) := ⟨rfl, rfl, rfl, by decide +kernel, rfl, by decide +kernel, by decide +kernel⟩
def spLo : Sp := fun vs H Q _ => ∃ (b m : Addr) (css : List (List Nat)) (g : List Nat → Nat), vs = [.ref b, .ref m] ∧ LL H b css ∧ NL H m (css.map g) ∧ 0 < css.length ∧ css.length ≤ 15625 ∧ RetLL H Q (keep g css)
theorem ok_Lo {f : Addr} {fd : FuncData} (F : Fun K "least_ones" "least_ones" sLo f fd) (T : Txt K mg C) : FnOk P w K mg base CX0 1 f fd ["castings", "measures"] spLo := by
  refine F.ok scLo (fun vs H Q E h => ?_) (fun cdv A outer s H vs Q E hr h => ?_)
  · obtain ⟨b, m, css, g, rfl, _⟩ := h
    rfl
  · obtain ⟨b, m, css, g, rfl, ⟨as, hA⟩, hm, hpos, hsz, k⟩ := h
    refine ⟨_, pss_cons (ps_set (i := 2) scLo.nd rfl (Or.inr rfl) (pe_callB (cr_min rfl) (by rfl) T.min (by decide +kernel) (pa_cons (pv 1) pa_nil)))
      (pss_one (ps_ret (pe_lc (own := [("at", 3)]) (g := gName 3) (tt := tTest (tOp rEq (tOp (rIxL K) (tVar 1) (tVar 3)) (tVar 2))) (te := tOp (rIxL K) (tVar 0) (tVar 3)) rfl scLo.nd
      (pi_range1 (by rfl) T.range (pa_cons (pe_callB call_len_seq (by rfl) T.len PySem.boot_len (pa_cons (pv 0) pa_nil)) pa_nil))
      (blkOk_by (N := ["castings", "measures", "least", "at"]) (sc := defScope sLo) (by decide +kernel)) (fun _ _ _ _ _ => pg_name (i := 3) scLo.nd rfl (Or.inl rfl))
      (fun _ _ _ _ _ => pts_one (pt_cmpR op_eq (pe_ix ix_list (pv 1) (pv 3) (fun _ _ => rfl)) (pv 2) (nomark _))) (fun _ _ _ _ _ => pe_ix ix_list (pv 0) (pv 3) (fun _ _ => rfl))))), ?_⟩
    have hl : (as.map V.ref).length = css.length := by rw [List.length_map, hA.len]
    refine ⟨_, rfl, m, toI (css.map g), rfl, by rw [ints_map]; exact SqL.of hm, by unfold toI; rw [List.length_map, List.length_map]; exact hpos, fun mm h1 h2 => ?_⟩
    obtain rfl := min_toI h1 h2
    refine ⟨_, rfl, _, _, rfl, .inl (SqL.of hA.lst), ?_⟩
    rw [hl]
    refine ⟨_, rfl, by omega, by omega, fun D nD => lc_range (lo := 0) (n := ((css.length : Nat) : Int).toNat) (fun i H' => ∃ bs : List Addr, Same H H' ∧ LLs H' D bs ((css.take i).filter fun c => g c == minOf (css.map g)) ∧ ∀ y ∈ bs, y ≠ D)
      ⟨[], sNew nD, ⟨upd_same, rfl, fun i x e => by simp at e⟩, fun y hy => by simp at hy⟩ ?_ ?_⟩
    · rintro i H' hi ⟨bs, s1, hD, hN⟩
      have hi2 : i < css.length := by omega
      obtain ⟨c, hc⟩ := get_lt hi2
      obtain ⟨r, hr2, hrow⟩ := hA.row i c hc
      have hmi : (css.map g)[i]? = some (g c) := by rw [List.getElem?_map, hc]; rfl
      have hf := filter_more (Q := fun c => g c == minOf (css.map g)) hc
      rw [show ((0 : Int) + (i : Nat)) = ((i : Nat) : Int) from Int.zero_add _]
      refine ⟨rfl, _, rfl, _, rfl, _, _, _, _, rfl, rfl, SqL.of (hm.same s1), at_nat hmi, _, rfl, rfl, _, rfl, ?_⟩
      by_cases e : g c = minOf (css.map g)
      · refine ift (decide_eq_true (by rw [e])) ⟨_, rfl, _, rfl, _, _, _, _, rfl, rfl, SqL.of (hA.same s1).lst, at_ref hr2, _, hD.lst, ?_, bs ++ [r], sUpd s1 nD, ?_, fun y hy => ?_⟩
        · rw [List.length_map, hD.len]
          have h1 := List.length_filter_le (fun c => g c == minOf (css.map g)) (css.take i)
          have h2 : (css.take i).length ≤ 15625 := by rw [List.length_take]; omega
          exact line_nat (by omega)
        · rw [hf, if_pos (by rw [e]; exact beq_self_eq_true _)]
          exact hD.more (hrow.same s1) hN (ne_of_none hrow nD)
        · rcases List.mem_append.mp hy with z | z
          · exact hN y z
          · rw [List.mem_singleton.mp z]
            exact ne_of_none hrow nD
      · refine ifn (decide_eq_false fun z => e (nv_inj z)) ⟨bs, s1, ?_, hN⟩
        rw [hf, if_neg (by simpa using e), List.append_nil]
        exact hD
    · rintro H' ⟨bs, s1, hD, hN⟩
      rw [show ((css.length : Nat) : Int).toNat = css.length by omega, List.take_length] at hD
      exact k _ _ s1 nD ⟨bs, hD⟩
/-! ### without -/
abbrev sWo : Stmt := top 25
theorem scWo : FnScope ["castings", "player", "casting"] ["castings", "player"] (defScope sWo) := ⟨rfl, rfl, rfl, by decide +kernel, rfl, by decide +kernel, by decide +kernel⟩
def spWo : Sp := fun vs H Q _ => ∃ (b : Addr) (css : List (List Nat)) (x : Nat), vs = [.ref b, nv x] ∧ LL H b css ∧ css.length ≤ 15625 ∧ RetLL H Q (css.filter fun c => !c.contains x)
theorem ok_Wo {f : Addr} {fd : FuncData} (F : Fun K "without" "without" sWo f fd) : FnOk P w K mg base CX0 1 f fd ["castings", "player"] spWo := by
  refine F.ok scWo (fun vs H Q E h => ?_) (fun cdv A outer s H vs Q E hr h => ?_)
  · obtain ⟨b, css, x, rfl, _⟩ := h
    rfl
  · obtain ⟨b, css, x, rfl, ⟨as, hA⟩, hsz, k⟩ := h
    refine ⟨_, pss_one (ps_ret (pe_lc (own := [("casting", 2)]) (g := gName 2) (tt := tTest (tOp (rIn K true) (tVar 1) (tVar 2))) (te := tVar 2) rfl scWo.nd (pi_list (pv 0))
      (blkOk_by (N := ["castings", "player", "casting"]) (sc := defScope sWo) (by decide +kernel)) (fun _ _ _ _ _ => pg_name (i := 2) scWo.nd rfl (Or.inl rfl))
      (fun _ _ _ _ _ => pts_one (pt_cmpR op_notIn_seq (pv 1) (pv 2) (by rfl))) (fun _ _ _ _ _ => pv 2))), ?_⟩
    refine ⟨_, rfl, b, rfl, ⟨_, SqL.of hA.lst⟩, fun D nD => lc_list (K := K) (a := b) (xs := as.map V.ref) (fun i H' => ∃ bs : List Addr, Same H H' ∧ LLs H' D bs ((css.take i).filter fun c => !c.contains x) ∧ ∀ y ∈ bs, y ≠ D)
      ⟨[], sNew nD, ⟨upd_same, rfl, fun i x e => by simp at e⟩, fun y hy => by simp at hy⟩ (fun i H' _ ⟨_, s1, _⟩ => SqL.of (hA.same s1).lst) ?_ ?_⟩
    · rintro i y H' hi ⟨bs, s1, hD, hN⟩
      rw [List.getElem?_map, Option.map_eq_some_iff] at hi
      obtain ⟨r, hr2, rfl⟩ := hi
      obtain ⟨c, hc, hrow⟩ := hA.get hr2
      have hf := filter_more (Q := fun c : List Nat => !c.contains x) hc
      refine ⟨rfl, _, rfl, _, rfl, _, _, rfl, .inl (SqL.of (hrow.same s1)), rfl, flat_nv _, _, rfl, ?_⟩
      have e : inV (nv x) (c.map nv) = c.contains x := inV_nv x c
      cases hh : c.contains x with
      | false =>
        refine ift (by show (!inV (nv x) (c.map nv)) = true; rw [e, hh] <;> rfl) ⟨_, rfl, _, hD.lst, ?_, bs ++ [r], sUpd s1 nD, ?_, fun y hy => ?_⟩
        · rw [List.length_map, hD.len]
          have h1 := List.length_filter_le (fun c : List Nat => !c.contains x) (css.take i)
          have h2 : (css.take i).length ≤ 15625 := by rw [List.length_take]; omega
          exact line_nat (by omega)
        · rw [hf, if_pos (by rw [hh] <;> rfl)]
          exact hD.more (hrow.same s1) hN (ne_of_none hrow nD)
        · rcases List.mem_append.mp hy with z | z
          · exact hN y z
          · rw [List.mem_singleton.mp z]
            exact ne_of_none hrow nD
      | true =>
        refine ifn (by show (!inV (nv x) (c.map nv)) = false; rw [e, hh] <;> rfl) ⟨bs, s1, ?_, hN⟩
        rw [hf, if_neg (by rw [hh]; simp), List.append_nil]
        exact hD
    · rintro H' ⟨bs, s1, hD, hN⟩
      rw [List.length_map, hA.len, List.take_length] at hD
      exact k _ _ s1 nD ⟨bs, hD⟩
/-! ### told -/
abbrev sTo : Stmt := top 53
theorem scTo : FnScope ["number", "rows", "answer", "row"] ["number", "rows"] (defScope sTo) := ⟨rfl, rfl, rfl, by decide +kernel, rfl, by decide +kernel, by decide +kernel⟩
def spTo : Sp := fun vs H Q _ => ∃ (v : Int) (b : Addr) (rows : List (List Nat)), vs = [.int v, .ref b] ∧ LL H b rows ∧ (outR v rows).length ≤ 1000000 ∧ RetIL H Q (outR v rows)
theorem ok_To {f : Addr} {fd : FuncData} (F : Fun K "told" "told" sTo f fd) (T : Txt K mg C) : FnOk P w K mg base CX0 1 f fd ["number", "rows"] spTo := by
  refine F.ok scTo (fun vs H Q E h => ?_) (fun cdv A outer s H vs Q E hr h => ?_)
  · obtain ⟨v, b, rows, rfl, _⟩ := h
    rfl
  · obtain ⟨v, b, rows, rfl, ⟨as, hA⟩, hsz, k⟩ := h
    refine ⟨_, pss_cons (ps_set (i := 2) scTo.nd rfl (Or.inl rfl) (pe_lst (pa_cons (pv 0) pa_nil)))
      (pss_cons (ps_for PassesOwn.never rfl (pi_list (pv 1)) (pg_name (i := 3) scTo.nd rfl (Or.inl rfl))
        (pss_cons (ps_expr (pe_bm PySem.F.plainAttrs_list PySem.F.slot_list_append PySem.F.type_list_append mt_append (pv 2) (pa_cons (pe_callB call_len_seq (by rfl) T.len PySem.boot_len (pa_cons (pv 3) pa_nil)) pa_nil)))
        (pss_one (ps_expr (pe_bm PySem.F.plainAttrs_list PySem.F.slot_list_extend PySem.F.type_list_extend mt_extend (pv 2) (pa_cons (pv 3) pa_nil))))))
      (pss_one (ps_ret (pv 2)))), ?_⟩
    refine ⟨_, rfl, by show 1 ≤ sizeLine; decide, fun q nq => ?_⟩
    have s0 : Same H (upd H q (.lst [.int v])) := sNew nq
    refine ⟨_, rfl, b, rfl, ⟨_, SqL.of (hA.same s0).lst⟩, for_list (K := K) (a := b) (xs := as.map V.ref) (fun i σ H' => ∃ v3 : Option V, σ = [some (.int v), some (.ref b), some (.ref q), v3] ∧ Same H H' ∧ IL H' q (outR v (rows.take i)))
      ⟨none, rfl, s0, upd_same⟩ (fun i σ H' _ ⟨_, _, s1, _⟩ => SqL.of (hA.same s1).lst) ?_ ?_⟩
    · rintro i y σ H1 hi ⟨v3, rfl, s1, hL⟩
      rw [List.getElem?_map, Option.map_eq_some_iff] at hi
      obtain ⟨r, hr2, rfl⟩ := hi
      obtain ⟨x, hx, hrow⟩ := hA.get hr2
      have hlen := outR_len (v := v) hx
      have nr : r ≠ q := ne_of_none hrow nq
      refine ⟨_, rfl, .inl ⟨rfl, _, SqL.of hL⟩, _, rfl, _, _, rfl, .inl (SqL.of (hrow.same s1)), q, _, _, rfl, rfl, hL, by rw [List.length_map]; exact line_nat (by omega), ?_⟩
      refine ⟨_, rfl, .inl ⟨rfl, _, SqL.of upd_same⟩, _, rfl, q, r, _, _, rfl, rfl, upd_same, by rw [upd_ne nr]; exact s1 _ _ hrow, ?_, ?_⟩
      · rw [List.length_append, List.length_map, List.length_map]
        show _ + 1 + _ ≤ _
        exact line_le (by omega)
      · refine ⟨_, rfl, sUpd (sUpd s1 nq) nq, ?_⟩
        unfold IL
        rw [upd_same, outR_more hx, List.map_append, List.map_append, ints_map, List.length_map] <;> rfl
    · rintro σ H1 ⟨v3, rfl, s1, hL⟩
      rw [List.length_map, hA.len, List.take_length] at hL
      exact ⟨_, rfl, k _ _ s1 nq hL⟩
/-! ### told_choice -/
abbrev sTc : Stmt := top 54
theorem scTc : FnScope ["play", "number", "chosen", "earliest", "counted"] ["play", "number", "chosen"] (defScope sTc) := ⟨rfl, rfl, rfl, by decide +kernel, rfl, by decide +kernel, by decide +kernel⟩
def spTc (C : Addr) : Sp := fun vs H Q _ => ∃ (a b : Addr) (v : Int) (p : Uw02.Play) (css : List (List Nat)) (c : List Nat), vs = [.ref a, .int v, .ref b] ∧ PR C H a p ∧ Good p ∧ LL H b css ∧ css[0]? = some c ∧ Able p c ∧ RetIL H Q (outR v [[css.length, p.cost c], c, p.engaged c])
theorem ok_Tc {f : Addr} {fd : FuncData} (F : Fun K "told_choice" "told_choice" sTc f fd) (T : Txt K mg C) (D1 : DefOk P w K mg base "cost" 3 ["play", "casting"] (spCo C)) (D2 : DefOk P w K mg base "told" 1 ["number", "rows"] spTo) (D3 : DefOk P w K mg base "engaged" 1 ["play", "casting"] (spEn C)) :
    FnOk P w K mg base CX0 4 f fd ["play", "number", "chosen"] (spTc C) := by
  refine F.ok scTc (fun vs H Q E h => ?_) (fun cdv A outer s H vs Q E hr h => ?_)
  · obtain ⟨a, b, v, p, css, c, rfl, _⟩ := h
    rfl
  · obtain ⟨a, b, v, p, css, c, rfl, R, g, ⟨as, hA⟩, hc, ab, k⟩ := h
    have hr1 : Room 1 _ := hr.mono (by decide)
    refine ⟨_, pss_cons (ps_set (i := 3) scTc.nd rfl (Or.inl rfl) (pe_ix ix_list (pv 2) pe_int (fun _ _ => rfl)))
      (pss_cons (ps_set (i := 4) scTc.nd rfl (Or.inl rfl) (pe_lst (pa_cons (pe_callB call_len_seq (by rfl) T.len PySem.boot_len (pa_cons (pv 2) pa_nil)) (pa_cons (pe_def D1 hr rfl (pa_cons (pv 0) (pa_cons (pv 3) pa_nil))) pa_nil))))
      (pss_one (ps_ret (pe_def D2 hr1 rfl (pa_cons (pv 1) (pa_cons (pe_lst (pa_cons (pv 4) (pa_cons (pv 3) (pa_cons (pe_def D3 hr1 rfl (pa_cons (pv 0) (pa_cons (pv 3) pa_nil))) pa_nil)))) pa_nil)))))), ?_⟩
    obtain ⟨r, hr2, hrow⟩ := hA.row 0 c hc
    have hl : (as.map V.ref).length = css.length := by rw [List.length_map, hA.len]
    refine ⟨_, rfl, _, _, _, _, rfl, rfl, SqL.of hA.lst, at_of (j := 0) (v := .ref r) rfl (by rw [List.getElem?_map, hr2] <;> rfl), ?_⟩
    refine ⟨_, rfl, _, _, rfl, .inl (SqL.of hA.lst), _, rfl, _, rfl, a, r, p, c, rfl, R, g, hrow, ab, fun H1 s1 => ⟨by show 2 ≤ sizeLine; decide, fun q n1 => ?_⟩⟩
    rw [hl]
    have s2 : Same H (upd H1 q (.lst [.int ((css.length : Nat) : Int), nv (p.cost c)])) := sUpd s1 (s1.free n1)
    refine ⟨_, rfl, _, rfl, _, rfl, _, rfl, _, rfl, a, r, p, c, rfl, R.same s2, g, hrow.same s2, fun H3 e s3 n3 he => ⟨by show 3 ≤ sizeLine; decide, fun q2 n2 => ?_⟩⟩
    have s23 : Same H H3 := s2.trans s3
    have s4 : Same H3 (upd H3 q2 (.lst [.ref q, .ref r, .ref e])) := sNew n2
    have hq : NL H3 q [css.length, p.cost c] := s3 _ _ upd_same
    refine ⟨v, q2, [[css.length, p.cost c], c, p.engaged c], rfl, LL3 upd_same (hq.same s4) ((hrow.same s23).same s4) (he.same s4), ?_, k.from (s23.trans s4)⟩
    have h1 := ab.len
    have h2 := g.dl
    have h3 := g.pl
    have h4 : (p.engaged c).length ≤ p.players.length := by
      unfold Uw02.Play.engaged
      have := List.length_filter_le (fun a => c.contains a) (List.range p.players.length)
      rw [List.length_range] at this
      exact this
    unfold outR toI
    simp only [List.flatMap_cons, List.flatMap_nil, List.length_cons, List.length_append, List.length_map, List.append_nil, List.length_nil]
    omega
end
end RD
namespace RD
open PySem PySem.Spec PyProof.Rows L2
/-! ### a call's numbers, by place -/
def wordOf : Uw02.Call → Nat
  | .begins _ => 0
  | .scene _ _ => 1
  | .player _ _ => 2
  | .clashes => 3
  | .cheapest => 4
  | .fewest => 5
  | .check _ => 6
  | .ill _ => 7
def singOf : Uw02.Call → Nat
  | .scene _ _ => 1
  | .player _ _ => 1
  | .ill _ => 1
  | _ => 0
def rowC : Uw02.Call → Option (List Nat)
  | .begins d => some d
  | .scene _ r => some r
  | .player _ f => some f
  | .check c => some c
  | _ => none
def SINGS : List Nat := [0, 1, 1, 0, 0, 0, 0, 1]
def ROWSL : List Nat := [1, 1, 1, 0, 0, 0, 1, 0]
theorem enc_word (c : Uw02.Call) : (encC c)[0]? = some ((wordOf c : Nat) : Int) := by cases c <;> rfl
theorem sings_at (c : Uw02.Call) : SINGS[wordOf c]? = some (singOf c) := by cases c <;> rfl
theorem rows_at (c : Uw02.Call) : ROWSL[wordOf c]? = some (if (rowC c).isSome = true then 1 else 0) := by cases c <;> rfl
theorem toI_len (l : List Nat) : (toI l).length = l.length := by unfold toI; rw [List.length_map]
theorem enc_none {c : Uw02.Call} (h : rowC c = none) : (encC c).length = 1 + singOf c := by
  cases c <;> first | rfl | (cases h)
theorem enc_some {c : Uw02.Call} {r : List Nat} (h : rowC c = some r) : (encC c)[1 + singOf c]? = some ((r.length : Nat) : Int) ∧ (encC c).length = 1 + singOf c + 1 + r.length ∧ (encC c).drop (2 + singOf c) = toI r := by
  cases c <;> first | (cases h; done) | (obtain rfl := Option.some.inj h; refine ⟨rfl, ?_, rfl⟩; simp only [encC, singOf, List.length_cons, toI_len]; omega)
theorem enc_at {ns pre rest : List Int} {c : Uw02.Call} (h : ns = pre ++ (encC c ++ rest)) {k : Nat} {v : Int} (hk : (encC c)[k]? = some v) : ns[pre.length + k]? = some v := by
  have hl := (List.getElem?_eq_some_iff.mp hk).1
  rw [h, List.getElem?_append_right (by omega), show pre.length + k - pre.length = k by omega, List.getElem?_append_left hl]
  exact hk
/-- an int constant of the text -/
def IC (mg : Str → Option Value) (x : Str) (n : Int) : Prop := ∃ t, mg x = some (.int n t)
theorem pe_ic {X : Cx} {x : Str} {n : Int} {pos : Pos} (h : IC X.mg x n) (hg : Gl X x) (hd : (x == ("__debug__" : Str)) = false := by decide) : PE X (.Name x pos) (tC (.int n)) := by
  obtain ⟨t, h⟩ := h
  exact pe_glob hg h ⟨t, rfl⟩ hd
/-- a tuple constant of the text, at t -/
structure TC (K : PySem.W.Frag) (mg : Str → Option Value) (x : Str) (t : Addr) (xs : List Nat) : Prop where
  nm : mg x = some (.ref t)
  sq : ∀ H, SqT K H t (xs.map nv)
/-! ### rising -/
theorem rising_iff : ∀ (l : List Nat), Uw02.rising l = true ↔ ∀ i, i + 1 < l.length → l.getD i 0 < l.getD (i + 1) 0
  | [] => ⟨fun _ i h => by simp at h, fun _ => rfl⟩
  | [x] => ⟨fun _ i h => by simp at h, fun _ => rfl⟩
  | a :: b :: l => by
    have ih := rising_iff (b :: l)
    show (decide (a < b) && Uw02.rising (b :: l)) = true ↔ _
    rw [Bool.and_eq_true, ih]
    constructor
    · rintro ⟨h1, h2⟩ i hi
      cases i with
      | zero => exact of_decide_eq_true h1
      | succ i => exact h2 i (by simpa using hi)
    · intro h
      refine ⟨decide_eq_true (h 0 (by simp)), fun i hi => h (i + 1) (by simpa using hi)⟩
section
variable {P : Program} {w : World} {K : PySem.W.Frag} {mg : Str → Option Value} {base : Heap} {C tS tR : Addr}
/-! ### call_size -/
abbrev sSi : Stmt := top 36
theorem scSi : FnScope ["calls", "at", "word", "size"] ["calls", "at"] (defScope sSi) := ⟨rfl, rfl, rfl, by decide +kernel, rfl, by decide +kernel, by decide +kernel⟩
def spSi (K : PySem.W.Frag) : Sp := fun vs H Q _ => ∃ (b : Addr) (ns pre rest : List Int) (c : Uw02.Call), vs = [.ref b, nv pre.length] ∧ SqL K H b (ns.map V.int) ∧ ns = pre ++ (encC c ++ rest) ∧ RetV H Q (nv (encC c).length)
theorem ok_Si {f : Addr} {fd : FuncData} (F : Fun K "call_size" "call_size" sSi f fd) (TS : TC K mg "SINGLES" tS SINGS) (TR : TC K mg "ROWS" tR ROWSL) : FnOk P w K mg base CX0 1 f fd ["calls", "at"] (spSi K) := by
  refine F.ok scSi (fun vs H Q E h => ?_) (fun cdv A outer s H vs Q E hr h => ?_)
  · obtain ⟨b, ns, pre, rest, c, rfl, _⟩ := h
    rfl
  · obtain ⟨b, ns, pre, rest, c, rfl, hS, hn, k⟩ := h
    refine ⟨_, pss_cons (ps_set (i := 2) scSi.nd rfl (Or.inl rfl) (pe_ix ix_list (pv 0) (pv 1) (fun _ _ => rfl)))
      (pss_cons (ps_set (i := 3) scSi.nd rfl (Or.inl rfl) (pe_op op_add pe_int (pe_ix ix_tup (pe_glob (v := .ref tS) rfl TS.nm rfl) (pv 2) (fun _ _ => rfl))))
      (pss_cons (ps_if (pt_cmpR op_eq (pe_ix ix_tup (pe_glob (v := .ref tR) rfl TR.nm rfl) (pv 2) (fun _ _ => rfl)) pe_int (nomark _))
        (pss_one (ps_ret (pe_op op_add (pe_op op_add (pv 3) pe_int) (pe_ix ix_list (pv 0) (pe_op op_add (pv 1) (pv 3)) (fun _ _ => rfl))))) pss_nil)
      (pss_one (ps_ret (pv 3))))), ?_⟩
    have hw := enc_at hn (enc_word c)
    refine ⟨_, rfl, _, rfl, _, _, _, _, rfl, rfl, hS, at_int hw, ?_⟩
    refine ⟨_, rfl, _, _, _, _, rfl, rfl, TS.sq _, at_nat (sings_at c), _, _, rfl, rfl, ?_⟩
    refine ⟨_, rfl, _, _, _, _, rfl, rfl, TR.sq _, at_nat (rows_at c), rfl, _, rfl, ?_⟩
    cases hr2 : rowC c with
    | none =>
      have e := enc_none hr2
      refine ifn (decide_eq_false (by decide)) ⟨_, rfl, ?_⟩
      have e2 : nv (encC c).length = V.int (1 + ((singOf c : Nat) : Int)) := by
        rw [e]
        exact congrArg V.int (by omega)
      rw [e2] at k
      exact k _ (Same.refl _)
    | some r =>
      obtain ⟨e1, e2, _⟩ := enc_some hr2
      have hl := enc_at hn e1
      refine ift (decide_eq_true (by rfl)) ⟨_, rfl, _, _, rfl, rfl, _, rfl, _, rfl, _, rfl, _, _, rfl, rfl, _, _, _, _, rfl, rfl, hS, at_of (j := pre.length + (1 + singOf c)) (v := .int ((r.length : Nat) : Int)) (by omega) (by rw [List.getElem?_map, hl] <;> rfl), _, _, rfl, rfl, ?_⟩
      have e3 : nv (encC c).length = V.int (1 + ((singOf c : Nat) : Int) + 1 + ((r.length : Nat) : Int)) := by
        rw [e2]
        exact congrArg V.int (by omega)
      rw [e3] at k
      exact k _ (Same.refl _)
/-! ### call_places -/
abbrev sPl : Stmt := top 37
theorem scPl : FnScope ["calls", "places", "left", "at"] ["calls"] (defScope sPl) := ⟨rfl, rfl, rfl, by decide +kernel, rfl, by decide +kernel, by decide +kernel⟩
def spPl (K : PySem.W.Frag) : Sp := fun vs H Q _ => ∃ (b : Addr) (cs : List Uw02.Call), vs = [.ref b] ∧ SqL K H b ((cs.flatMap encC).map V.int) ∧ cs.length ≤ 40 ∧ RetNL H Q (places 0 cs)
def leftOf (cs : List Uw02.Call) (i : Nat) : Nat := ((cs.drop i).flatMap encC).length
theorem left_pos {cs : List Uw02.Call} {i : Nat} (h : 0 < leftOf cs i) : ∃ c, cs[i]? = some c := by
  cases e : cs[i]? with
  | some c => exact ⟨c, rfl⟩
  | none =>
    rw [List.getElem?_eq_none_iff] at e
    unfold leftOf at h
    rw [List.drop_eq_nil_of_le e] at h
    simp at h
theorem left_next {cs : List Uw02.Call} {i : Nat} {c : Uw02.Call} (h : cs[i]? = some c) : leftOf cs i = (encC c).length + leftOf cs (i + 1) := by
  obtain ⟨hi, e⟩ := List.getElem?_eq_some_iff.mp h
  unfold leftOf
  rw [List.drop_eq_getElem_cons hi, e, List.flatMap_cons, List.length_append]
theorem left_done {cs : List Uw02.Call} {i : Nat} (h : ¬ 0 < leftOf cs i) (hi : i ≤ cs.length) : i = cs.length := by
  apply Classical.byContradiction
  intro n
  obtain ⟨c, hc⟩ := get_lt (l := cs) (i := i) (by omega)
  have := left_next hc
  have := encC_pos c
  omega
theorem left_sum (cs : List Uw02.Call) (i : Nat) : (cs.flatMap encC).length = ((cs.take i).flatMap encC).length + leftOf cs i := by
  unfold leftOf
  rw [← List.length_append, ← List.flatMap_append, List.take_append_drop]
def muOf (σ : L2.St) : Nat := match σ[2]? with
  | some (some (V.int z)) => z.toNat
  | _ => 0
theorem ok_Pl {f : Addr} {fd : FuncData} (F : Fun K "call_places" "call_places" sPl f fd) (T : Txt K mg C) (D1 : DefOk P w K mg base "call_size" 1 ["calls", "at"] (spSi K)) : FnOk P w K mg base CX0 2 f fd ["calls"] (spPl K) := by
  refine F.ok scPl (fun vs H Q E h => ?_) (fun cdv A outer s H vs Q E hr h => ?_)
  · obtain ⟨b, cs, rfl, _⟩ := h
    rfl
  · obtain ⟨b, cs, rfl, hS, hcs, k⟩ := h
    refine ⟨_, pss_cons (ps_set (i := 1) scPl.nd rfl (Or.inl rfl) (pe_lst pa_nil))
      (pss_cons (ps_set (i := 2) scPl.nd rfl (Or.inl rfl) (pe_callB call_len_seq (by rfl) T.len PySem.boot_len (pa_cons (pv 0) pa_nil)))
      (pss_cons (ps_while PassesOwn.never (pt_cmpR op_gt (pv 2) pe_int (nomark _))
        (pss_cons (ps_set (i := 3) scPl.nd rfl (Or.inl rfl) (pe_op op_sub (pe_callB call_len_seq (by rfl) T.len PySem.boot_len (pa_cons (pv 0) pa_nil)) (pv 2)))
        (pss_cons (ps_expr (pe_bm PySem.F.plainAttrs_list PySem.F.slot_list_append PySem.F.type_list_append mt_append (pv 1) (pa_cons (pv 3) pa_nil)))
        (pss_one (ps_set (i := 2) scPl.nd rfl (Or.inl rfl) (pe_op op_sub (pv 2) (pe_def D1 hr rfl (pa_cons (pv 0) (pa_cons (pv 3) pa_nil)))))))))
      (pss_one (ps_ret (pv 1))))), ?_⟩
    refine ⟨by show 0 ≤ sizeLine; decide, fun q nq => ?_⟩
    have s0 : Same H (upd H q (.lst [])) := sNew nq
    have hll : ((cs.flatMap encC).map V.int).length = (cs.flatMap encC).length := List.length_map ..
    refine ⟨_, rfl, _, _, rfl, .inl (s0.seq hS), ?_⟩
    rw [hll]
    refine while_by (fun σ H' => ∃ (i : Nat) (v3 : Option V), i ≤ cs.length ∧ σ = [some (.ref b), some (.ref q), some (nv (leftOf cs i)), v3] ∧ Same H H' ∧ NL H' q ((places 0 cs).take i))
      (fun σ _ => muOf σ) ⟨0, none, Nat.zero_le _, rfl, s0, upd_same⟩ ?_ ?_
    · rintro σ H1 ⟨i, v3, hi, rfl, s1, hL⟩
      refine ⟨_, rfl, _, _, rfl, rfl, _, rfl, ?_⟩
      by_cases hpos : 0 < leftOf cs i
      · refine ift (decide_eq_true (by omega)) ?_
        obtain ⟨c, hc⟩ := left_pos hpos
        have hnx := left_next hc
        have hsum := left_sum cs i
        have hpos2 := encC_pos c
        have hpl := places_get (k := 0) hc
        rw [Nat.zero_add] at hpl
        have hi2 := (List.getElem?_eq_some_iff.mp hc).1
        have ev : V.int (((((cs.flatMap encC).map V.int).length : Nat) : Int) - ((leftOf cs i : Nat) : Int)) = nv ((cs.take i).flatMap encC).length := congrArg V.int (by rw [hll]; omega)
        refine ⟨_, rfl, _, _, rfl, .inl (s1.seq hS), _, rfl, _, _, rfl, rfl, .ref q, rfl, .inl ⟨rfl, _, SqL.of hL⟩, _, rfl, q, _, _, rfl, rfl, hL, ?_, ?_⟩
        · rw [List.length_map, List.length_take, places_len]
          exact line_nat (by omega)
        have s2 : Same H (upd H1 q (.lst (((places 0 cs).take i).map nv ++ [V.int (((((cs.flatMap encC).map V.int).length : Nat) : Int) - ((leftOf cs i : Nat) : Int))]))) := sUpd s1 nq
        refine ⟨nv (leftOf cs i), rfl, .ref b, rfl, _, rfl, b, _, (cs.take i).flatMap encC, (cs.drop (i + 1)).flatMap encC, c, by rw [← ev] <;> rfl, s2.seq hS, split_at hc, fun H3 s3 => ?_⟩
        refine ⟨_, _, rfl, rfl, ⟨i + 1, some (.int (((((cs.flatMap encC).map V.int).length : Nat) : Int) - ((leftOf cs i : Nat) : Int))), by omega, ?_, s2.trans s3, ?_⟩, ?_⟩
        · have e2 : V.int (((leftOf cs i : Nat) : Int) - (((encC c).length : Nat) : Int)) = nv (leftOf cs (i + 1)) := congrArg V.int (by omega)
          rw [← e2]
          rfl
        · refine NL.same s3 ?_
          unfold NL
          rw [upd_same, take_more hpl, List.map_append]
          exact congrArg (fun z => some (HO.lst (((places 0 cs).take i).map nv ++ [z]))) ev
        · show (((leftOf cs i : Nat) : Int) - (((encC c).length : Nat) : Int)).toNat < (((leftOf cs i : Nat) : Int)).toNat
          omega
      · refine ifn (decide_eq_false (by omega)) ?_
        have hd := left_done hpos hi
        rw [hd, List.take_of_length_le (by rw [places_len]; omega)] at hL
        exact ⟨_, rfl, k _ _ s1 nq hL⟩
    · intro σ H1 Q1 Q2 hq h
      obtain ⟨v, e1, h⟩ := h
      obtain ⟨i, j, e2, e3, k1, e4, h⟩ := h
      exact ⟨v, e1, i, j, e2, e3, k1, e4, hq _ _ h⟩
/-! ### single_at -/
abbrev sSg : Stmt := top 38
theorem scSg : FnScope ["calls", "at"] ["calls", "at"] (defScope sSg) := ⟨rfl, rfl, rfl, by decide +kernel, rfl, by decide +kernel, by decide +kernel⟩
def spSg (K : PySem.W.Frag) : Sp := fun vs H Q _ => ∃ (b : Addr) (ns pre rest : List Int) (c : Uw02.Call) (z : Int), vs = [.ref b, nv pre.length] ∧ SqL K H b (ns.map V.int) ∧ ns = pre ++ (encC c ++ rest) ∧ (encC c)[1]? = some z ∧ RetV H Q (.int z)
theorem ok_Sg {f : Addr} {fd : FuncData} (F : Fun K "single_at" "single_at" sSg f fd) : FnOk P w K mg base CX0 1 f fd ["calls", "at"] (spSg K) := by
  refine F.ok scSg (fun vs H Q E h => ?_) (fun cdv A outer s H vs Q E hr h => ?_)
  · obtain ⟨b, ns, pre, rest, c, z, rfl, _⟩ := h
    rfl
  · obtain ⟨b, ns, pre, rest, c, z, rfl, hS, hn, hz, k⟩ := h
    refine ⟨_, pss_one (ps_ret (pe_ix ix_list (pv 0) (pe_op op_add (pv 1) pe_int) (fun _ _ => rfl))), ?_⟩
    have hl := enc_at hn hz
    exact ⟨_, rfl, _, rfl, _, _, rfl, rfl, _, _, _, _, rfl, rfl, hS, at_of (j := pre.length + 1) (v := .int z) (by omega) (by rw [List.getElem?_map, hl] <;> rfl), k _ (Same.refl _)⟩
/-! ### row_at -/
abbrev sRa : Stmt := top 39
theorem scRa : FnScope ["calls", "at", "place", "first"] ["calls", "at"] (defScope sRa) := ⟨rfl, rfl, rfl, by decide +kernel, rfl, by decide +kernel, by decide +kernel⟩
def spRa (K : PySem.W.Frag) : Sp := fun vs H Q _ => ∃ (b : Addr) (ns pre rest : List Int) (c : Uw02.Call) (r : List Nat), vs = [.ref b, nv pre.length] ∧ SqL K H b (ns.map V.int) ∧ ns = pre ++ (encC c ++ rest) ∧ rowC c = some r ∧ RetNL H Q r
theorem cut_row {ns pre rest : List Int} {c : Uw02.Call} {r : List Nat} (hn : ns = pre ++ (encC c ++ rest)) (hr : rowC c = some r) {i j : Int} (hi : i = ((pre.length + (2 + singOf c) : Nat) : Int)) (hj : j = ((pre.length + (2 + singOf c) + r.length : Nat) : Int)) : cutV (ns.map V.int) (some i) (some j) = r.map nv := by
  obtain ⟨_, e2, e3⟩ := enc_some hr
  have hln : ns.length = pre.length + ((encC c).length + rest.length) := by rw [hn, List.length_append, List.length_append]
  subst hi hj
  unfold cutV
  rw [HT.sIx_nat, HT.sIx_nat, List.length_map, Nat.min_eq_left (by omega), Nat.min_eq_left (by omega), ← List.map_drop, ← List.map_take]
  have e4 : ns.drop (pre.length + (2 + singOf c)) = toI r ++ rest := by
    rw [hn, List.drop_append, List.drop_append, List.drop_eq_nil_of_le (by omega), List.nil_append, show pre.length + (2 + singOf c) - pre.length = 2 + singOf c by omega, e3, show 2 + singOf c - (encC c).length = 0 by omega, List.drop_zero]
  rw [e4, show pre.length + (2 + singOf c) + r.length - (pre.length + (2 + singOf c)) = (toI r).length by rw [toI_len]; omega, List.take_left, ints_map]
theorem ok_Ra {f : Addr} {fd : FuncData} (F : Fun K "row_at" "row_at" sRa f fd) (TS : TC K mg "SINGLES" tS SINGS) : FnOk P w K mg base CX0 1 f fd ["calls", "at"] (spRa K) := by
  refine F.ok scRa (fun vs H Q E h => ?_) (fun cdv A outer s H vs Q E hr h => ?_)
  · obtain ⟨b, ns, pre, rest, c, r, rfl, _⟩ := h
    rfl
  · obtain ⟨b, ns, pre, rest, c, r, rfl, hS, hn, hrc, k⟩ := h
    refine ⟨_, pss_cons (ps_set (i := 2) scRa.nd rfl (Or.inl rfl) (pe_op op_add (pe_op op_add (pv 1) pe_int) (pe_ix ix_tup (pe_glob (v := .ref tS) rfl TS.nm rfl) (pe_ix ix_list (pv 0) (pv 1) (fun _ _ => rfl)) (fun _ _ => rfl))))
      (pss_cons (ps_set (i := 3) scRa.nd rfl (Or.inl rfl) (pe_op op_add (pv 2) pe_int))
      (pss_one (ps_ret (pe_slice sl_list (pv 0) (po_some (pv 3)) (po_some (pe_op op_add (pv 3) (pe_ix ix_list (pv 0) (pv 2) (fun _ _ => rfl)))))))), ?_⟩
    obtain ⟨e1, e2, e3⟩ := enc_some hrc
    have hw := enc_at hn (enc_word c)
    have hl := enc_at hn e1
    refine ⟨_, rfl, _, _, rfl, rfl, _, rfl, _, rfl, _, _, _, _, rfl, rfl, hS, at_int hw, _, _, _, _, rfl, rfl, TS.sq _, at_nat (sings_at c), _, _, rfl, rfl, ?_⟩
    refine ⟨_, rfl, _, _, rfl, rfl, ?_⟩
    refine ⟨_, rfl, _, rfl, _, rfl, _, rfl, _, rfl, _, rfl, _, _, _, _, rfl, rfl, hS, at_of (j := pre.length + (1 + singOf c)) (v := .int ((r.length : Nat) : Int)) (by omega) (by rw [List.getElem?_map, hl] <;> rfl), _, _, rfl, rfl, _, rfl, b, _, rfl, hS, fun q nq => ?_⟩
    refine k _ _ (sNew nq) nq ?_
    unfold NL
    rw [upd_same, cut_row hn hrc (by omega) (by omega)]
end
end RD
namespace RD
open PySem PySem.Spec PyProof.Rows L2
section
variable {P : Program} {w : World} {K : PySem.W.Frag} {mg : Str → Option Value} {base : Heap} {C : Addr}
/-! ### one_above -/
abbrev sAb : Stmt := top 46
theorem scAb : FnScope ["numbers", "most", "number"] ["numbers", "most"] (defScope sAb) := ⟨rfl, rfl, rfl, by decide +kernel, rfl, by decide +kernel, by decide +kernel⟩
def spAb : Sp := fun vs H Q _ => ∃ (b : Addr) (xs : List Nat) (m : Int), vs = [.ref b, .int m] ∧ NL H b xs ∧ RetV H Q (.bl (aboveB xs m))
theorem ok_Ab {f : Addr} {fd : FuncData} (F : Fun K "one_above" "one_above" sAb f fd) : FnOk P w K mg base CX0 1 f fd ["numbers", "most"] spAb := by
  refine F.ok scAb (fun vs H Q E h => ?_) (fun cdv A outer s H vs Q E hr h => ?_)
  · obtain ⟨b, xs, m, rfl, _⟩ := h
    rfl
  · obtain ⟨b, xs, m, rfl, hx, k⟩ := h
    refine ⟨_, pss_cons (ps_for PassesOwn.never rfl (pi_list (pv 0)) (pg_name (i := 2) scAb.nd rfl (Or.inl rfl))
        (pss_one (ps_if (pt_cmpR op_gt (pv 2) (pv 1) (nomark _)) (pss_one (ps_ret pe_bl)) pss_nil)))
      (pss_one (ps_ret pe_bl)), ?_⟩
    refine ⟨_, rfl, b, rfl, ⟨_, SqL.of hx⟩, for_list (K := K) (a := b) (xs := xs.map nv) (fun i σ H' => ∃ v : Option V, σ = [some (.ref b), some (.int m), v] ∧ H' = H ∧ ∀ y ∈ xs.take i, ¬ m < (y : Int))
      ⟨none, rfl, rfl, fun y hy => by simp at hy⟩ (fun i σ H' _ ⟨_, _, e, _⟩ => by rw [e]; exact SqL.of hx) ?_ ?_⟩
    · rintro i y σ H' hi ⟨v, rfl, rfl, hn⟩
      rw [List.getElem?_map, Option.map_eq_some_iff] at hi
      obtain ⟨x, hx2, rfl⟩ := hi
      refine ⟨_, rfl, _, rfl, _, _, rfl, rfl, _, rfl, ?_⟩
      by_cases e : m < (x : Int)
      · refine ift (decide_eq_true e) ?_
        have ea : aboveB xs m = true := List.any_eq_true.mpr ⟨x, List.mem_of_getElem? hx2, decide_eq_true e⟩
        rw [ea] at k
        exact k _ (Same.refl _)
      · refine ifn (decide_eq_false e) ⟨_, rfl, rfl, fun y hy => ?_⟩
        rw [take_more hx2, List.mem_append] at hy
        rcases hy with hy | hy
        · exact hn y hy
        · rw [List.mem_singleton.mp hy]
          exact e
    · rintro σ H' ⟨v, rfl, rfl, hn⟩
      rw [List.length_map, List.take_length] at hn
      have ea : aboveB xs m = false := by
        unfold aboveB
        rw [← Bool.not_eq_true, List.any_eq_true]
        rintro ⟨y, hy, e⟩
        exact hn y hy (of_decide_eq_true e)
      rw [ea] at k
      exact k _ (Same.refl _)
/-! ### rising -/
abbrev sRi : Stmt := top 47
theorem scRi : FnScope ["numbers", "at"] ["numbers"] (defScope sRi) := ⟨rfl, rfl, rfl, by decide +kernel, rfl, by decide +kernel, by decide +kernel⟩
def spRi : Sp := fun vs H Q _ => ∃ (b : Addr) (xs : List Nat), vs = [.ref b] ∧ NL H b xs ∧ xs.length ≤ 20 ∧ RetV H Q (.bl (Uw02.rising xs))
theorem ok_Ri {f : Addr} {fd : FuncData} (F : Fun K "rising" "rising" sRi f fd) (T : Txt K mg C) : FnOk P w K mg base CX0 1 f fd ["numbers"] spRi := by
  refine F.ok scRi (fun vs H Q E h => ?_) (fun cdv A outer s H vs Q E hr h => ?_)
  · obtain ⟨b, xs, rfl, _⟩ := h
    rfl
  · obtain ⟨b, xs, rfl, hx, hz, k⟩ := h
    refine ⟨_, pss_cons (ps_for PassesOwn.never rfl (pi_range2 (by rfl) T.range (pa_cons pe_int (pa_cons (pe_callB call_len_seq (by rfl) T.len PySem.boot_len (pa_cons (pv 0) pa_nil)) pa_nil))) (pg_name (i := 1) scRi.nd rfl (Or.inl rfl))
        (pss_one (ps_if (pt_cmpR op_le (pe_ix ix_list (pv 0) (pv 1) (fun _ _ => rfl)) (pe_ix ix_list (pv 0) (pe_op op_sub (pv 1) pe_int) (fun _ _ => rfl)) (nomark _)) (pss_one (ps_ret pe_bl)) pss_nil)))
      (pss_one (ps_ret pe_bl)), ?_⟩
    have hl : (xs.map nv).length = xs.length := List.length_map ..
    refine ⟨_, rfl, _, _, rfl, .inl (SqL.of hx), ?_⟩
    rw [hl]
    have en : (((xs.length : Nat) : Int) - 1).toNat = xs.length - 1 := by omega
    refine ⟨_, _, rfl, ⟨by omega, by omega, by omega, by omega⟩, for_range (lo := 1) (n := (((xs.length : Nat) : Int) - 1).toNat) (fun i σ H' => ∃ v : Option V, σ = [some (.ref b), v] ∧ H' = H ∧ ∀ j < i, xs.getD j 0 < xs.getD (j + 1) 0)
      ⟨none, rfl, rfl, fun j hj => absurd hj (Nat.not_lt_zero j)⟩ ?_ ?_⟩
    · rintro i σ H' hi ⟨v, rfl, rfl, hn⟩
      rw [en] at hi
      refine ⟨_, rfl, _, rfl, _, _, _, _, rfl, rfl, SqL.of hx, at_of (j := i + 1) (v := nv (xs.getD (i + 1) 0)) (by omega) (by rw [List.getElem?_map, get_of_lt (by omega)] <;> rfl),
        _, rfl, _, rfl, _, _, rfl, rfl, _, _, _, _, rfl, rfl, SqL.of hx, at_of (j := i) (v := nv (xs.getD i 0)) (by omega) (by rw [List.getElem?_map, get_of_lt (by omega)] <;> rfl), _, _, rfl, rfl, _, rfl, ?_⟩
      by_cases e : xs.getD i 0 < xs.getD (i + 1) 0
      · refine ifn (decide_eq_false (by omega)) ⟨_, rfl, rfl, fun j hj => ?_⟩
        by_cases h : j = i
        · subst h
          exact e
        · exact hn j (by omega)
      · refine ift (decide_eq_true (by omega)) ?_
        have ea : Uw02.rising xs = false := by
          rw [← Bool.not_eq_true, rising_iff]
          intro z
          exact e (z i (by omega))
        rw [ea] at k
        exact k _ (Same.refl _)
    · rintro σ H' ⟨v, rfl, rfl, hn⟩
      rw [en] at hn
      have ea : Uw02.rising xs = true := (rising_iff xs).mpr fun i hi => hn i (by omega)
      rw [ea] at k
      exact k _ (Same.refl _)
/-! ### begins_refusal -/
abbrev sBr : Stmt := top 48
theorem scBr : FnScope ["dress"] ["dress"] (defScope sBr) := ⟨rfl, rfl, rfl, by decide +kernel, rfl, by decide +kernel, by decide +kernel⟩
def spBr : Sp := fun vs H Q _ => ∃ (b : Addr) (xs : List Nat), vs = [.ref b] ∧ NL H b xs ∧ RetV H Q (.int (begRef xs))
theorem ok_Br {f : Addr} {fd : FuncData} (F : Fun K "begins_refusal" "begins_refusal" sBr f fd) (T : Txt K mg C) (c1 : IC mg "MOST_ROLES" 6) (c2 : IC mg "MOST_MINUTES" 1000) (D1 : DefOk P w K mg base "one_above" 1 ["numbers", "most"] spAb) : FnOk P w K mg base CX0 2 f fd ["dress"] spBr := by
  refine F.ok scBr (fun vs H Q E h => ?_) (fun cdv A outer s H vs Q E hr h => ?_)
  · obtain ⟨b, xs, rfl, _⟩ := h
    rfl
  · obtain ⟨b, xs, rfl, hx, k⟩ := h
    refine ⟨_, pss_cons (ps_if (PW.pt (pw_or (pt_cmpR op_lt (pe_callB call_len_seq (by rfl) T.len PySem.boot_len (pa_cons (pv 0) pa_nil)) pe_int (nomark _)) (pw_or1 (pt_cmpR op_gt (pe_callB call_len_seq (by rfl) T.len PySem.boot_len (pa_cons (pv 0) pa_nil)) (pe_ic c1 rfl) (nomark _)))))
        (pss_one (ps_ret (pe_un un_neg pe_int))) pss_nil)
      (pss_cons (ps_if (pt_val (pe_def D1 hr rfl (pa_cons (pv 0) (pa_cons (pe_ic c2 rfl) pa_nil)))) (pss_one (ps_ret (pe_un un_neg pe_int))) pss_nil)
      (pss_one (ps_ret pe_int))), ?_⟩
    have hl : (xs.map nv).length = xs.length := List.length_map ..
    refine ⟨_, rfl, _, _, rfl, .inl (SqL.of hx), ?_⟩
    rw [hl]
    refine ⟨_, _, rfl, rfl, _, rfl, ?_⟩
    by_cases e1 : xs.length < 1
    · have er : begRef xs = -1 := by unfold begRef; rw [if_pos (.inl e1)]
      rw [er] at k
      exact ift (decide_eq_true (by omega)) (ift rfl ⟨_, rfl, k _ (Same.refl _)⟩)
    · refine ifn (decide_eq_false (by omega)) ⟨_, rfl, _, _, rfl, .inl (SqL.of hx), ?_⟩
      rw [hl]
      refine ⟨_, _, rfl, rfl, _, rfl, ?_⟩
      by_cases e2 : 6 < xs.length
      · have er : begRef xs = -1 := by unfold begRef; rw [if_pos (.inr e2)]
        rw [er] at k
        exact ift (decide_eq_true (by omega)) ⟨_, rfl, k _ (Same.refl _)⟩
      · refine ifn (decide_eq_false (by omega)) ⟨_, rfl, b, xs, 1000, rfl, hx, fun H1 s1 => ⟨_, rfl, ?_⟩⟩
        unfold begRef at k
        rw [if_neg (by omega)] at k
        cases ea : aboveB xs 1000 with
        | true =>
          rw [if_pos ea] at k
          exact ift rfl ⟨_, rfl, k _ s1⟩
        | false =>
          rw [if_neg (by rw [ea]; exact Bool.false_ne_true)] at k
          exact ifn rfl (k _ s1)
/-! ### scene_refusal -/
abbrev sSr : Stmt := top 49
theorem scSr : FnScope ["play", "minutes", "roles"] ["play", "minutes", "roles"] (defScope sSr) := ⟨rfl, rfl, rfl, by decide +kernel, rfl, by decide +kernel, by decide +kernel⟩
def spSr (C : Addr) : Sp := fun vs H Q _ => ∃ (a b : Addr) (p : Uw02.Play) (n : Nat) (xs : List Nat), vs = [.ref a, nv n, .ref b] ∧ PR C H a p ∧ NL H b xs ∧ xs.length ≤ 20 ∧ RetV H Q (.int (sceneRef p n xs))
theorem ok_Sr {f : Addr} {fd : FuncData} (F : Fun K "scene_refusal" "scene_refusal" sSr f fd) (T : Txt K mg C) (c1 : IC mg "MOST_MINUTES" 1000) (c2 : IC mg "MOST_SCENES" 10) (D1 : DefOk P w K mg base "one_above" 1 ["numbers", "most"] spAb) (D2 : DefOk P w K mg base "rising" 1 ["numbers"] spRi) :
    FnOk P w K mg base CX0 2 f fd ["play", "minutes", "roles"] (spSr C) := by
  refine F.ok scSr (fun vs H Q E h => ?_) (fun cdv A outer s H vs Q E hr h => ?_)
  · obtain ⟨a, b, p, n, xs, rfl, _⟩ := h
    rfl
  · obtain ⟨a, b, p, n, xs, rfl, ⟨d, l, o, w', f', R⟩, hx, hz, k⟩ := h
    refine ⟨_, pss_cons (ps_if (pt_cmpR op_gt (pv 1) (pe_ic c1 rfl) (nomark _)) (pss_one (ps_ret (pe_un un_neg pe_int))) pss_nil)
      (pss_cons (ps_if (pt_val (pe_def D1 hr rfl (pa_cons (pv 2) (pa_cons (pe_op op_sub (pe_callB call_len_seq (by rfl) T.len PySem.boot_len (pa_cons (pe_fld (pv 0) rfl) pa_nil)) pe_int) pa_nil)))) (pss_one (ps_ret (pe_un un_neg pe_int))) pss_nil)
      (pss_cons (ps_if (pt_not (pt_val (pe_def D2 hr rfl (pa_cons (pv 2) pa_nil)))) (pss_one (ps_ret (pe_un un_neg pe_int))) pss_nil)
      (pss_cons (ps_if (pt_cmpR op_ge (pe_callB call_len_seq (by rfl) T.len PySem.boot_len (pa_cons (pe_fld (pv 0) rfl) pa_nil)) (pe_ic c2 rfl) (nomark _)) (pss_one (ps_ret (pe_un un_neg pe_int))) pss_nil)
      (pss_one (ps_ret pe_int))))), ?_⟩
    obtain ⟨dx, hO⟩ := R.obj
    have hd : (p.dress.map nv).length = p.dress.length := List.length_map ..
    have hs : ((p.scenes.map fun s => s.long).map nv).length = p.scenes.length := by rw [List.length_map, List.length_map]
    unfold sceneRef at k
    refine ⟨_, rfl, _, _, rfl, rfl, _, rfl, ?_⟩
    by_cases e1 : 1000 < n
    · rw [if_pos e1] at k
      exact ift (decide_eq_true (by omega)) ⟨_, rfl, k _ (Same.refl _)⟩
    rw [if_neg e1] at k
    refine ifn (decide_eq_false (by omega)) ⟨_, rfl, _, rfl, _, C, dx, _, _, rfl, hO, T.cl, T.nD, pF_dress .., _, _, rfl, .inl (SqL.of R.dr), ?_⟩
    rw [hd]
    refine ⟨_, _, rfl, rfl, b, xs, ((p.dress.length : Nat) : Int) - 1, rfl, hx, fun H1 s1 => ⟨_, rfl, ?_⟩⟩
    cases e2 : aboveB xs (((p.dress.length : Nat) : Int) - 1) with
    | true =>
      rw [if_pos e2] at k
      exact ift rfl ⟨_, rfl, k _ s1⟩
    | false =>
      rw [if_neg (by rw [e2]; exact Bool.false_ne_true)] at k
      refine ifn rfl ⟨_, rfl, b, xs, rfl, hx.same s1, hz, fun H2 s2 => ⟨_, rfl, ?_⟩⟩
      have s12 : Same H H2 := s1.trans s2
      cases e3 : Uw02.rising xs with
      | false =>
        rw [if_pos e3] at k
        exact ift rfl ⟨_, rfl, k _ s12⟩
      | true =>
        rw [if_neg (by rw [e3]; exact Bool.noConfusion)] at k
        refine ifn rfl ⟨_, rfl, _, C, dx, _, _, rfl, s12 _ _ hO, T.cl, T.nL, pF_lasts .., _, _, rfl, .inl (SqL.of (R.la.same s12)), ?_⟩
        rw [hs]
        refine ⟨_, _, rfl, rfl, _, rfl, ?_⟩
        by_cases e4 : 10 ≤ p.scenes.length
        · rw [if_pos e4] at k
          exact ift (decide_eq_true (by omega)) ⟨_, rfl, k _ s12⟩
        · rw [if_neg e4] at k
          exact ifn (decide_eq_false (by omega)) (k _ s12)
/-! ### player_refusal -/
abbrev sPr : Stmt := top 50
theorem scPr : FnScope ["play", "wage", "fees"] ["play", "wage", "fees"] (defScope sPr) := ⟨rfl, rfl, rfl, by decide +kernel, rfl, by decide +kernel, by decide +kernel⟩
def spPr (C : Addr) : Sp := fun vs H Q _ => ∃ (a b : Addr) (p : Uw02.Play) (n : Nat) (xs : List Nat), vs = [.ref a, nv n, .ref b] ∧ PR C H a p ∧ NL H b xs ∧ RetV H Q (.int (playerRef p n xs))
theorem ok_Pr {f : Addr} {fd : FuncData} (F : Fun K "player_refusal" "player_refusal" sPr f fd) (T : Txt K mg C) (c1 : IC mg "MOST_MONEY" 100000) (c2 : IC mg "MOST_PLAYERS" 5) (D1 : DefOk P w K mg base "one_above" 1 ["numbers", "most"] spAb) :
    FnOk P w K mg base CX0 2 f fd ["play", "wage", "fees"] (spPr C) := by
  refine F.ok scPr (fun vs H Q E h => ?_) (fun cdv A outer s H vs Q E hr h => ?_)
  · obtain ⟨a, b, p, n, xs, rfl, _⟩ := h
    rfl
  · obtain ⟨a, b, p, n, xs, rfl, ⟨d, l, o, w', f', R⟩, hx, k⟩ := h
    refine ⟨_, pss_cons (ps_if (pt_cmpR op_gt (pv 1) (pe_ic c1 rfl) (nomark _)) (pss_one (ps_ret (pe_un un_neg pe_int))) pss_nil)
      (pss_cons (ps_if (pt_val (pe_def D1 hr rfl (pa_cons (pv 2) (pa_cons (pe_op op_add (pe_ic c1 rfl) pe_int) pa_nil)))) (pss_one (ps_ret (pe_un un_neg pe_int))) pss_nil)
      (pss_cons (ps_if (pt_cmpR op_ne (pe_callB call_len_seq (by rfl) T.len PySem.boot_len (pa_cons (pv 2) pa_nil)) (pe_callB call_len_seq (by rfl) T.len PySem.boot_len (pa_cons (pe_fld (pv 0) rfl) pa_nil)) (nomark _)) (pss_one (ps_ret (pe_un un_neg pe_int))) pss_nil)
      (pss_cons (ps_if (pt_cmpR op_ge (pe_callB call_len_seq (by rfl) T.len PySem.boot_len (pa_cons (pe_fld (pv 0) rfl) pa_nil)) (pe_ic c2 rfl) (nomark _)) (pss_one (ps_ret (pe_un un_neg pe_int))) pss_nil)
      (pss_one (ps_ret pe_int))))), ?_⟩
    obtain ⟨dx, hO⟩ := R.obj
    have hd : (p.dress.map nv).length = p.dress.length := List.length_map ..
    have hxl : (xs.map nv).length = xs.length := List.length_map ..
    have hw : ((p.players.map fun s => s.wage).map nv).length = p.players.length := by rw [List.length_map, List.length_map]
    unfold playerRef at k
    refine ⟨_, rfl, _, _, rfl, rfl, _, rfl, ?_⟩
    by_cases e1 : 100000 < n
    · rw [if_pos e1] at k
      exact ift (decide_eq_true (by omega)) ⟨_, rfl, k _ (Same.refl _)⟩
    rw [if_neg e1] at k
    refine ifn (decide_eq_false (by omega)) ⟨_, rfl, _, _, rfl, rfl, b, xs, 100001, rfl, hx, fun H1 s1 => ⟨_, rfl, ?_⟩⟩
    cases e2 : aboveB xs 100001 with
    | true =>
      rw [if_pos e2] at k
      exact ift rfl ⟨_, rfl, k _ s1⟩
    | false =>
      rw [if_neg (by rw [e2]; exact Bool.false_ne_true)] at k
      refine ifn rfl ⟨_, rfl, _, _, rfl, .inl (SqL.of (hx.same s1)), _, rfl, _, C, dx, _, _, rfl, s1 _ _ hO, T.cl, T.nD, pF_dress .., _, _, rfl, .inl (SqL.of (R.dr.same s1)), ?_⟩
      rw [hd, hxl]
      refine ⟨rfl, _, rfl, ?_⟩
      by_cases e3 : xs.length ≠ p.dress.length
      · rw [if_pos e3] at k
        exact ift (by rw [decide_eq_false fun z => e3 (nv_inj z)] <;> rfl) ⟨_, rfl, k _ s1⟩
      · rw [if_neg e3] at k
        refine ifn (by rw [decide_eq_true (congrArg nv (Classical.not_not.mp e3))] <;> rfl) ⟨_, rfl, _, C, dx, _, _, rfl, s1 _ _ hO, T.cl, T.nW, pF_wages .., _, _, rfl, .inl (SqL.of (R.wa.same s1)), ?_⟩
        rw [hw]
        refine ⟨_, _, rfl, rfl, _, rfl, ?_⟩
        by_cases e4 : 5 ≤ p.players.length
        · rw [if_pos e4] at k
          exact ift (decide_eq_true (by omega)) ⟨_, rfl, k _ s1⟩
        · rw [if_neg e4] at k
          exact ifn (decide_eq_false (by omega)) (k _ s1)
/-! ### check_refusal -/
abbrev sCr : Stmt := top 51
theorem scCr : FnScope ["play", "casting"] ["play", "casting"] (defScope sCr) := ⟨rfl, rfl, rfl, by decide +kernel, rfl, by decide +kernel, by decide +kernel⟩
def spCr (C : Addr) : Sp := fun vs H Q _ => ∃ (a b : Addr) (p : Uw02.Play) (xs : List Nat), vs = [.ref a, .ref b] ∧ PR C H a p ∧ NL H b xs ∧ RetV H Q (.int (checkRef p xs))
theorem ok_Cr {f : Addr} {fd : FuncData} (F : Fun K "check_refusal" "check_refusal" sCr f fd) (T : Txt K mg C) (D1 : DefOk P w K mg base "one_above" 1 ["numbers", "most"] spAb) :
    FnOk P w K mg base CX0 2 f fd ["play", "casting"] (spCr C) := by
  refine F.ok scCr (fun vs H Q E h => ?_) (fun cdv A outer s H vs Q E hr h => ?_)
  · obtain ⟨a, b, p, xs, rfl, _⟩ := h
    rfl
  · obtain ⟨a, b, p, xs, rfl, ⟨d, l, o, w', f', R⟩, hx, k⟩ := h
    refine ⟨_, pss_cons (ps_if (pt_cmpR op_ne (pe_callB call_len_seq (by rfl) T.len PySem.boot_len (pa_cons (pv 1) pa_nil)) (pe_callB call_len_seq (by rfl) T.len PySem.boot_len (pa_cons (pe_fld (pv 0) rfl) pa_nil)) (nomark _)) (pss_one (ps_ret (pe_un un_neg pe_int))) pss_nil)
      (pss_cons (ps_if (pt_val (pe_def D1 hr rfl (pa_cons (pv 1) (pa_cons (pe_op op_sub (pe_callB call_len_seq (by rfl) T.len PySem.boot_len (pa_cons (pe_fld (pv 0) rfl) pa_nil)) pe_int) pa_nil)))) (pss_one (ps_ret (pe_un un_neg pe_int))) pss_nil)
      (pss_one (ps_ret pe_int))), ?_⟩
    obtain ⟨dx, hO⟩ := R.obj
    have hd : (p.dress.map nv).length = p.dress.length := List.length_map ..
    have hxl : (xs.map nv).length = xs.length := List.length_map ..
    have hw : ((p.players.map fun s => s.wage).map nv).length = p.players.length := by rw [List.length_map, List.length_map]
    unfold checkRef at k
    refine ⟨_, rfl, _, _, rfl, .inl (SqL.of hx), _, rfl, _, C, dx, _, _, rfl, hO, T.cl, T.nD, pF_dress .., _, _, rfl, .inl (SqL.of R.dr), ?_⟩
    rw [hd, hxl]
    refine ⟨rfl, _, rfl, ?_⟩
    by_cases e3 : xs.length ≠ p.dress.length
    · rw [if_pos e3] at k
      exact ift (by rw [decide_eq_false fun z => e3 (nv_inj z)] <;> rfl) ⟨_, rfl, k _ (Same.refl _)⟩
    rw [if_neg e3] at k
    refine ifn (by rw [decide_eq_true (congrArg nv (Classical.not_not.mp e3))] <;> rfl) ⟨_, rfl, _, rfl, _, C, dx, _, _, rfl, hO, T.cl, T.nW, pF_wages .., _, _, rfl, .inl (SqL.of R.wa), ?_⟩
    rw [hw]
    refine ⟨_, _, rfl, rfl, b, xs, ((p.players.length : Nat) : Int) - 1, rfl, hx, fun H1 s1 => ⟨_, rfl, ?_⟩⟩
    cases e2 : aboveB xs (((p.players.length : Nat) : Int) - 1) with
    | true =>
      rw [if_pos e2] at k
      exact ift rfl ⟨_, rfl, k _ s1⟩
    | false =>
      rw [if_neg (by rw [e2]; exact Bool.false_ne_true)] at k
      exact ifn rfl (k _ s1)
end
end RD
namespace RD
open PySem PySem.Spec PyProof.Rows L2
/-- all but what stands at a is as it was -/
def Keep (a : Addr) (H H' : Hp) : Prop := ∀ b o, H b = some o → b ≠ a → H' b = some o
theorem Keep.trans {a : Addr} {H H1 H2 : Hp} (h : Keep a H H1) (h' : Keep a H1 H2) : Keep a H H2 := fun b o e n => h' b o (h b o e n) n
theorem Keep.here {a : Addr} {H : Hp} {o : HO} : Keep a H (upd H a o) := fun b u e n => by rw [upd_ne n]; exact e
theorem Keep.new {a q : Addr} {H : Hp} {o : HO} (h : H q = none) : Keep a H (upd H q o) := fun b u e _ => sNew h b u e
theorem Keep.free {a q : Addr} {H H' : Hp} (k : Keep a H H') (h : H' q = none) (n : q ≠ a) : H q = none := by
  cases e : H q with
  | none => rfl
  | some o =>
    rw [k q o e n] at h
    cases h
def decF (x : Nat) : Option Nat := if x = 0 then none else some (x - 1)
theorem enc_dec (xs : List Nat) : (xs.map decF).map encF = xs := by
  rw [List.map_map]
  conv => rhs; rw [← List.map_id xs]
  refine List.map_congr_left fun x _ => ?_
  show encF (if x = 0 then none else some (x - 1)) = x
  by_cases h : x = 0
  · rw [if_pos h, h]
    rfl
  · rw [if_neg h]
    show x - 1 + 1 = x
    omega
theorem Keep.refl (a : Addr) (H : Hp) : Keep a H H := fun _ _ e _ => e
/-- five new lists, one behind another -/
theorem five {C a dx d l o w f : Addr} {H Hl Ho Hw Hf Hz : Hp} {xs : List Nat} (k1 : Keep a (upd H d (.lst (xs.map nv))) Hl) (k2 : Keep a (upd Hl l (.lst [])) Ho) (k3 : Keep a (upd Ho o (.lst [])) Hw) (k4 : Keep a (upd Hw w (.lst [])) Hf) (k5 : Keep a (upd Hf f (.lst [])) Hz)
    (ad : H a ≠ none) (al : Hl a ≠ none) (ao : Ho a ≠ none) (aw : Hw a ≠ none) (af : Hf a ≠ none) (n1 : H d = none) (n2 : Hl l = none) (n3 : Ho o = none) (n4 : Hw w = none) (n5 : Hf f = none) (hz : Hz a = some (.ins C dx (pF d l o w f))) :
    PlayAt C Hz a d l o w f ⟨xs, [], []⟩ ∧ (∀ x ∈ [d, l, o, w, f], H x = none) ∧ Keep a H Hz := by
  have ed : d ≠ a := fun e => ad (by rw [← e]; exact n1)
  have el : l ≠ a := fun e => al (by rw [← e]; exact n2)
  have eo : o ≠ a := fun e => ao (by rw [← e]; exact n3)
  have ew : w ≠ a := fun e => aw (by rw [← e]; exact n4)
  have ef : f ≠ a := fun e => af (by rw [← e]; exact n5)
  have dl : Hl d = some (.lst (xs.map nv)) := k1 _ _ upd_same ed
  have dld : l ≠ d := fun e => by rw [e, dl] at n2; cases n2
  have K1 : Keep a H Hl := (Keep.new n1).trans k1
  have d3 : Ho d = some (.lst (xs.map nv)) := k2 _ _ (by rw [upd_ne dld.symm]; exact dl) ed
  have l3 : Ho l = some (.lst []) := k2 _ _ upd_same el
  have K2 : Keep a Hl Ho := (Keep.new n2).trans k2
  have od : o ≠ d := fun e => by rw [e, d3] at n3; cases n3
  have ol : o ≠ l := fun e => by rw [e, l3] at n3; cases n3
  have K3 : Keep a Ho Hw := (Keep.new n3).trans k3
  have d4 : Hw d = some (.lst (xs.map nv)) := K3 _ _ d3 ed
  have l4 : Hw l = some (.lst []) := K3 _ _ l3 el
  have o4 : Hw o = some (.lst []) := k3 _ _ upd_same eo
  have wd : w ≠ d := fun e => by rw [e, d4] at n4; cases n4
  have wl : w ≠ l := fun e => by rw [e, l4] at n4; cases n4
  have wo : w ≠ o := fun e => by rw [e, o4] at n4; cases n4
  have K4 : Keep a Hw Hf := (Keep.new n4).trans k4
  have d5 : Hf d = some (.lst (xs.map nv)) := K4 _ _ d4 ed
  have l5 : Hf l = some (.lst []) := K4 _ _ l4 el
  have o5 : Hf o = some (.lst []) := K4 _ _ o4 eo
  have w5 : Hf w = some (.lst []) := k4 _ _ upd_same ew
  have fd : f ≠ d := fun e => by rw [e, d5] at n5; cases n5
  have fl : f ≠ l := fun e => by rw [e, l5] at n5; cases n5
  have fo : f ≠ o := fun e => by rw [e, o5] at n5; cases n5
  have fw : f ≠ w := fun e => by rw [e, w5] at n5; cases n5
  have K5 : Keep a Hf Hz := (Keep.new n5).trans k5
  refine ⟨⟨⟨dx, hz⟩, K5 _ _ d5 ed, K5 _ _ l5 el, ⟨[], ⟨K5 _ _ o5 eo, rfl, fun i x e => by simp at e⟩, fun r hr => by simp at hr⟩, K5 _ _ w5 ew, ⟨[], ⟨k5 _ _ upd_same ef, rfl, fun i x e => by simp at e⟩, fun r hr => by simp at hr⟩, ?_⟩, ?_, K1.trans (K2.trans (K3.trans (K4.trans K5)))⟩
  · simp only [List.nodup_cons, List.mem_cons, List.not_mem_nil, or_false, not_or, List.nodup_nil, and_true, not_false_eq_true]
    exact ⟨⟨dld.symm, od.symm, wd.symm, fd.symm⟩, ⟨ol.symm, wl.symm, fl.symm⟩, ⟨wo.symm, fo.symm⟩, fw.symm⟩
  · intro x hx
    simp only [List.mem_cons, List.not_mem_nil, or_false] at hx
    rcases hx with rfl | rfl | rfl | rfl | rfl
    · exact n1
    · exact K1.free n2 el
    · exact (K1.trans K2).free n3 eo
    · exact (K1.trans (K2.trans K3)).free n4 ew
    · exact (K1.trans (K2.trans (K3.trans K4))).free n5 ef
theorem nd5 {d l o w f : Addr} (h : [d, l, o, w, f].Nodup) : (d ≠ l ∧ d ≠ o ∧ d ≠ w ∧ d ≠ f) ∧ (l ≠ o ∧ l ≠ w ∧ l ≠ f) ∧ (o ≠ w ∧ o ≠ f) ∧ w ≠ f := by
  simp only [List.nodup_cons, List.mem_cons, List.not_mem_nil, or_false, not_or, List.nodup_nil, and_true, not_false_eq_true] at h
  exact h
theorem some_ne {H : Hp} {a : Addr} {o : HO} (h : H a = some o) : H a ≠ none := fun e => by rw [h] at e; cases e
section
variable {P : Program} {w : World} {K : PySem.W.Frag} {mg : Str → Option Value} {base : Heap} {C : Addr}
/-! ### Play.__init__ -/
abbrev sIn : Stmt := inClass (top 1) 0
theorem scIn : FnScope ["self"] ["self"] (defScope sIn) := ⟨rfl, rfl, rfl, by decide +kernel, rfl, by decide +kernel, by decide +kernel⟩
def spIn (C : Addr) : Sp := fun vs H Q _ => ∃ (a dx : Addr), vs = [.ref a] ∧ H a = some (.ins C dx []) ∧
  ∀ (H' : Hp) (d l o w f : Addr), PlayAt C H' a d l o w f Uw02.init → (∀ x ∈ [d, l, o, w, f], H x = none) → Keep a H H' → Q .non H'
theorem ok_In {f : Addr} {fd : FuncData} (F : Fun K "__init__" "Play.__init__" sIn f fd) (T : Txt K mg C) : FnOk P w K mg base CX0 1 f fd ["self"] (spIn C) := by
  refine F.ok scIn (fun vs H Q E h => ?_) (fun cdv A outer s H vs Q E hr h => ?_)
  · obtain ⟨a, dx, rfl, _⟩ := h
    rfl
  · obtain ⟨a, dx, rfl, hO, k⟩ := h
    refine ⟨_, pss_cons (ps_fld (pv 0) (pe_lst pa_nil) rfl) (pss_cons (ps_fld (pv 0) (pe_lst pa_nil) rfl) (pss_cons (ps_fld (pv 0) (pe_lst pa_nil) rfl) (pss_cons (ps_fld (pv 0) (pe_lst pa_nil) rfl) (pss_one (ps_fld (pv 0) (pe_lst pa_nil) rfl))))), ?_⟩
    refine ⟨by show 0 ≤ sizeLine; decide, fun d n1 => ⟨_, rfl, a, C, dx, _, rfl, sNew n1 _ _ hO, T.cl, T.nD, by show 0 < 1000; decide, ?_⟩⟩
    have na1 : d ≠ a := fun e => by rw [e, hO] at n1; cases n1
    refine ⟨by show 0 ≤ sizeLine; decide, fun l n2 => ⟨_, rfl, a, C, dx, _, rfl, sNew n2 _ _ upd_same, T.cl, T.nL, by show 1 < 1000; decide, ?_⟩⟩
    refine ⟨by show 0 ≤ sizeLine; decide, fun o n3 => ⟨_, rfl, a, C, dx, _, rfl, sNew n3 _ _ upd_same, T.cl, T.nO, by show 2 < 1000; decide, ?_⟩⟩
    refine ⟨by show 0 ≤ sizeLine; decide, fun w' n4 => ⟨_, rfl, a, C, dx, _, rfl, sNew n4 _ _ upd_same, T.cl, T.nW, by show 3 < 1000; decide, ?_⟩⟩
    refine ⟨by show 0 ≤ sizeLine; decide, fun f' n5 => ⟨_, rfl, a, C, dx, _, rfl, sNew n5 _ _ upd_same, T.cl, T.nF, by show 4 < 1000; decide, ?_⟩⟩
    obtain ⟨h1, h2, h3⟩ := five (xs := []) (C := C) (dx := dx) (f := f') Keep.here Keep.here Keep.here Keep.here Keep.here (some_ne hO) (some_ne upd_same) (some_ne upd_same) (some_ne upd_same) (some_ne upd_same) n1 n2 n3 n4 n5 (Eq.trans upd_same (congrArg (fun q => some (HO.ins C dx q)) (put_new d l o w' f')))
    exact k _ d l o w' f' h1 h2 h3
/-! ### Play.begin -/
abbrev sBe : Stmt := inClass (top 1) 1
theorem scBe : FnScope ["self", "dress"] ["self", "dress"] (defScope sBe) := ⟨rfl, rfl, rfl, by decide +kernel, rfl, by decide +kernel, by decide +kernel⟩
def spBe (C : Addr) : Sp := fun vs H Q _ => ∃ (a b dx d l o w f : Addr) (xs : List Nat), vs = [.ref a, .ref b] ∧ H a = some (.ins C dx (pF d l o w f)) ∧ NL H b xs ∧
  ∀ (H' : Hp) (d l o w f : Addr), PlayAt C H' a d l o w f ⟨xs, [], []⟩ → (∀ x ∈ [d, l, o, w, f], H x = none) → Keep a H H' → Q .non H'
theorem ok_Be {f : Addr} {fd : FuncData} (F : Fun K "begin" "Play.begin" sBe f fd) (T : Txt K mg C) : FnOk P w K mg base CX0 1 f fd ["self", "dress"] (spBe C) := by
  refine F.ok scBe (fun vs H Q E h => ?_) (fun cdv A outer s H vs Q E hr h => ?_)
  · obtain ⟨a, b, dx, d, l, o, w', f', xs, rfl, _⟩ := h
    rfl
  · obtain ⟨a, b, dx, d0, l0, o0, w0, f0, xs, rfl, hO, hx, k⟩ := h
    refine ⟨_, pss_cons (ps_fld (pv 0) (pe_callTy call_list_of (by rfl) T.list PyProof.Rows.boot_list (pa_cons (pv 1) pa_nil)) rfl) (pss_cons (ps_fld (pv 0) (pe_lst pa_nil) rfl) (pss_cons (ps_fld (pv 0) (pe_lst pa_nil) rfl) (pss_cons (ps_fld (pv 0) (pe_lst pa_nil) rfl) (pss_one (ps_fld (pv 0) (pe_lst pa_nil) rfl))))), ?_⟩
    refine ⟨_, rfl, b, _, rfl, .inl (SqL.of hx), fun d n1 => ⟨_, rfl, a, C, dx, _, rfl, sNew n1 _ _ hO, T.cl, T.nD, by show 5 < 1000; decide, ?_⟩⟩
    rw [put_dress]
    refine ⟨by show 0 ≤ sizeLine; decide, fun l n2 => ⟨_, rfl, a, C, dx, _, rfl, sNew n2 _ _ upd_same, T.cl, T.nL, by show 5 < 1000; decide, ?_⟩⟩
    rw [put_lasts]
    refine ⟨by show 0 ≤ sizeLine; decide, fun o n3 => ⟨_, rfl, a, C, dx, _, rfl, sNew n3 _ _ upd_same, T.cl, T.nO, by show 5 < 1000; decide, ?_⟩⟩
    rw [put_onstage]
    refine ⟨by show 0 ≤ sizeLine; decide, fun w' n4 => ⟨_, rfl, a, C, dx, _, rfl, sNew n4 _ _ upd_same, T.cl, T.nW, by show 5 < 1000; decide, ?_⟩⟩
    rw [put_wages]
    refine ⟨by show 0 ≤ sizeLine; decide, fun f' n5 => ⟨_, rfl, a, C, dx, _, rfl, sNew n5 _ _ upd_same, T.cl, T.nF, by show 5 < 1000; decide, ?_⟩⟩
    rw [put_fees]
    obtain ⟨h1, h2, h3⟩ := five (xs := xs) (C := C) (dx := dx) (f := f') Keep.here Keep.here Keep.here Keep.here Keep.here (some_ne hO) (some_ne upd_same) (some_ne upd_same) (some_ne upd_same) (some_ne upd_same) n1 n2 n3 n4 n5 upd_same
    exact k _ d l o w' f' h1 h2 h3
/-! ### Play.put_scene -/
abbrev sPs : Stmt := inClass (top 1) 2
theorem scPs : FnScope ["self", "minutes", "roles"] ["self", "minutes", "roles"] (defScope sPs) := ⟨rfl, rfl, rfl, by decide +kernel, rfl, by decide +kernel, by decide +kernel⟩
def spPs (C : Addr) : Sp := fun vs H Q _ => ∃ (a b d l o w f : Addr) (p : Uw02.Play) (n : Nat) (xs : List Nat), vs = [.ref a, nv n, .ref b] ∧ PlayAt C H a d l o w f p ∧ p.scenes.length ≤ 10 ∧ NL H b xs ∧ b ≠ l ∧
  ∀ (H' : Hp) (as : List Addr) (q : Addr), H o = some (.lst (as.map V.ref)) → H' o = some (.lst ((as ++ [q]).map V.ref)) → H q = none → PlayAt C H' a d l o w f { p with scenes := p.scenes ++ [⟨n, xs⟩] } → (∀ x u, H x = some u → x ≠ l → x ≠ o → H' x = some u) → Q .non H'
theorem ok_Ps {f : Addr} {fd : FuncData} (F : Fun K "put_scene" "Play.put_scene" sPs f fd) (T : Txt K mg C) : FnOk P w K mg base CX0 1 f fd ["self", "minutes", "roles"] (spPs C) := by
  refine F.ok scPs (fun vs H Q E h => ?_) (fun cdv A outer s H vs Q E hr h => ?_)
  · obtain ⟨a, b, d, l, o, w', f', p, n, xs, rfl, _⟩ := h
    rfl
  · obtain ⟨a, b, d, l, o, w', f', p, n, xs, rfl, R, hsz, hx, hbl, k⟩ := h
    refine ⟨_, pss_cons (ps_expr (pe_bm PySem.F.plainAttrs_list PySem.F.slot_list_append PySem.F.type_list_append mt_append (pe_fld (pv 0) rfl) (pa_cons (pv 1) pa_nil)))
      (pss_one (ps_expr (pe_bm PySem.F.plainAttrs_list PySem.F.slot_list_append PySem.F.type_list_append mt_append (pe_fld (pv 0) rfl) (pa_cons (pe_callTy call_list_of (by rfl) T.list PyProof.Rows.boot_list (pa_cons (pv 2) pa_nil)) pa_nil)))), ?_⟩
    obtain ⟨⟨dx, hO⟩, hd, hl, ⟨as, hA, nA⟩, hw, ⟨bs, hB, nB⟩, nd⟩ := R
    have nal : a ≠ l := ne_of hO hl (by intro q; cases q)
    have nao : a ≠ o := ne_of hO hA.lst (by intro q; cases q)
    obtain ⟨⟨ndl, ndo, ndw, ndf⟩, ⟨nlo, nlw, nlf⟩, ⟨now_, nof⟩, nwf⟩ := nd5 nd
    refine ⟨_, rfl, a, C, dx, _, _, rfl, hO, T.cl, T.nL, pF_lasts .., .inl ⟨rfl, _, SqL.of hl⟩, _, rfl, l, _, _, rfl, rfl, hl, by rw [List.length_map, List.length_map]; exact line_nat (by omega), ?_⟩
    have hA1 : LLs (upd H l (.lst ((p.scenes.map fun s => s.long).map nv ++ [nv n]))) o as (p.scenes.map fun s => s.roles) := hA.off nlo.symm fun z hz => (nA z hz).1
    refine ⟨_, rfl, a, C, dx, _, _, rfl, by rw [upd_ne nal]; exact hO, T.cl, T.nO, pF_onstage .., .inl ⟨rfl, _, SqL.of hA1.lst⟩, _, rfl, b, _, rfl, .inl (SqL.of (by rw [upd_ne hbl]; exact hx)), fun q nq => ?_⟩
    have hA2 := hA1.same (sNew (o := .lst (xs.map nv)) nq)
    have hq := fun x u (e : upd H l (.lst ((p.scenes.map fun s => s.long).map nv ++ [nv n])) x = some u) => ne_of_none e nq
    have nqo : q ≠ o := (hq _ _ hA1.lst).symm
    have nql : q ≠ l := (hq _ _ upd_same).symm
    have nqw : q ≠ w' := (hq _ _ (by rw [upd_ne nlw.symm]; exact hw)).symm
    have nqf : q ≠ f' := (hq _ _ (by rw [upd_ne nlf.symm]; exact hB.lst)).symm
    refine ⟨o, _, _, rfl, rfl, hA2.lst, by rw [List.length_map, hA2.len, List.length_map]; exact line_nat (by omega), ?_⟩
    have fr : ∀ x u, H x = some u → x ≠ l → x ≠ o → upd (upd (upd H l (.lst ((p.scenes.map fun s => s.long).map nv ++ [nv n]))) q (.lst (xs.map nv))) o (.lst (as.map V.ref ++ [V.ref q])) x = some u := fun x u e h1 h2 => by
      have e2 : upd H l (.lst ((p.scenes.map fun s => s.long).map nv ++ [nv n])) x = some u := by rw [upd_ne h1]; exact e
      rw [upd_ne h2, upd_ne (hq _ _ e2)]
      exact e2
    refine k _ as q hA.lst (by rw [upd_same, List.map_append] <;> rfl) (by rw [← nq, upd_ne nql]) ⟨⟨dx, fr _ _ hO nal nao⟩, fr _ _ hd ndl ndo, ?_, ⟨as ++ [q], ?_, ?_⟩, fr _ _ hw nlw.symm now_.symm, ⟨bs, ?_, nB⟩, ?_⟩ fr
    · unfold NL
      rw [upd_ne nlo, upd_ne nql.symm, upd_same, List.map_append, List.map_append] <;> rfl
    · show LLs _ o (as ++ [q]) ((p.scenes ++ [(⟨n, xs⟩ : Uw02.Scene)]).map fun s => s.roles)
      rw [List.map_append]
      exact hA2.more upd_same (fun y hy => (nA y hy).2.1) nqo
    · intro r hr2
      rcases List.mem_append.mp hr2 with m | m
      · exact nA r m
      · rw [List.mem_singleton.mp m]
        exact ⟨nql, nqo, nqw, nqf⟩
    · exact ⟨fr _ _ hB.lst nlf.symm nof.symm, hB.len, fun i x e => by
        obtain ⟨r, h1, h2⟩ := hB.row i x e
        have := nB r (List.mem_of_getElem? h1)
        exact ⟨r, h1, fr _ _ h2 this.1 this.2.1⟩⟩
    · exact nd
/-! ### Play.put_player -/
abbrev sPp : Stmt := inClass (top 1) 3
theorem scPp : FnScope ["self", "wage", "fees"] ["self", "wage", "fees"] (defScope sPp) := ⟨rfl, rfl, rfl, by decide +kernel, rfl, by decide +kernel, by decide +kernel⟩
def spPp (C : Addr) : Sp := fun vs H Q _ => ∃ (a b d l o w f : Addr) (p : Uw02.Play) (n : Nat) (xs : List Nat), vs = [.ref a, nv n, .ref b] ∧ PlayAt C H a d l o w f p ∧ p.players.length ≤ 10 ∧ NL H b xs ∧ b ≠ w ∧
  ∀ (H' : Hp) (as : List Addr) (q : Addr), H f = some (.lst (as.map V.ref)) → H' f = some (.lst ((as ++ [q]).map V.ref)) → H q = none → PlayAt C H' a d l o w f { p with players := p.players ++ [⟨n, xs.map decF⟩] } → (∀ x u, H x = some u → x ≠ w → x ≠ f → H' x = some u) → Q .non H'
theorem ok_Pp {f : Addr} {fd : FuncData} (F : Fun K "put_player" "Play.put_player" sPp f fd) (T : Txt K mg C) : FnOk P w K mg base CX0 1 f fd ["self", "wage", "fees"] (spPp C) := by
  refine F.ok scPp (fun vs H Q E h => ?_) (fun cdv A outer s H vs Q E hr h => ?_)
  · obtain ⟨a, b, d, l, o, w', f', p, n, xs, rfl, _⟩ := h
    rfl
  · obtain ⟨a, b, d, l, o, w', f', p, n, xs, rfl, R, hsz, hx, hbw, k⟩ := h
    refine ⟨_, pss_cons (ps_expr (pe_bm PySem.F.plainAttrs_list PySem.F.slot_list_append PySem.F.type_list_append mt_append (pe_fld (pv 0) rfl) (pa_cons (pv 1) pa_nil)))
      (pss_one (ps_expr (pe_bm PySem.F.plainAttrs_list PySem.F.slot_list_append PySem.F.type_list_append mt_append (pe_fld (pv 0) rfl) (pa_cons (pe_callTy call_list_of (by rfl) T.list PyProof.Rows.boot_list (pa_cons (pv 2) pa_nil)) pa_nil)))), ?_⟩
    obtain ⟨⟨dx, hO⟩, hd, hl, ⟨as, hA, nA⟩, hw, ⟨bs, hB, nB⟩, nd⟩ := R
    have naw : a ≠ w' := ne_of hO hw (by intro q; cases q)
    have naf : a ≠ f' := ne_of hO hB.lst (by intro q; cases q)
    obtain ⟨⟨ndl, ndo, ndw, ndf⟩, ⟨nlo, nlw, nlf⟩, ⟨now_, nof⟩, nwf⟩ := nd5 nd
    refine ⟨_, rfl, a, C, dx, _, _, rfl, hO, T.cl, T.nW, pF_wages .., .inl ⟨rfl, _, SqL.of hw⟩, _, rfl, w', _, _, rfl, rfl, hw, by rw [List.length_map, List.length_map]; exact line_nat (by omega), ?_⟩
    have hB1 : LLs (upd H w' (.lst ((p.players.map fun x => x.wage).map nv ++ [nv n]))) f' bs (p.players.map fRow) := hB.off nwf.symm fun z hz => (nB z hz).2.2.1
    refine ⟨_, rfl, a, C, dx, _, _, rfl, by rw [upd_ne naw]; exact hO, T.cl, T.nF, pF_fees .., .inl ⟨rfl, _, SqL.of hB1.lst⟩, _, rfl, b, _, rfl, .inl (SqL.of (by rw [upd_ne hbw]; exact hx)), fun q nq => ?_⟩
    have hB2 := hB1.same (sNew (o := .lst (xs.map nv)) nq)
    have hq := fun x u (e : upd H w' (.lst ((p.players.map fun x => x.wage).map nv ++ [nv n])) x = some u) => ne_of_none e nq
    have nqf : q ≠ f' := (hq _ _ hB1.lst).symm
    have nqw : q ≠ w' := (hq _ _ upd_same).symm
    have nql : q ≠ l := (hq _ _ (by rw [upd_ne nlw]; exact hl)).symm
    have nqo : q ≠ o := (hq _ _ (by rw [upd_ne now_]; exact hA.lst)).symm
    refine ⟨f', _, _, rfl, rfl, hB2.lst, by rw [List.length_map, hB2.len, List.length_map]; exact line_nat (by omega), ?_⟩
    have fr : ∀ x u, H x = some u → x ≠ w' → x ≠ f' → upd (upd (upd H w' (.lst ((p.players.map fun x => x.wage).map nv ++ [nv n]))) q (.lst (xs.map nv))) f' (.lst (bs.map V.ref ++ [V.ref q])) x = some u := fun x u e h1 h2 => by
      have e2 : upd H w' (.lst ((p.players.map fun x => x.wage).map nv ++ [nv n])) x = some u := by rw [upd_ne h1]; exact e
      rw [upd_ne h2, upd_ne (hq _ _ e2)]
      exact e2
    refine k _ bs q hB.lst (by rw [upd_same, List.map_append] <;> rfl) (by rw [← nq, upd_ne nqw]) ⟨⟨dx, fr _ _ hO naw naf⟩, fr _ _ hd ndw ndf, fr _ _ hl nlw nlf, ⟨as, ?_, nA⟩, ?_, ⟨bs ++ [q], ?_, ?_⟩, ?_⟩ fr
    · exact ⟨fr _ _ hA.lst now_ nof, hA.len, fun i x e => by
        obtain ⟨r, h1, h2⟩ := hA.row i x e
        have := nA r (List.mem_of_getElem? h1)
        exact ⟨r, h1, fr _ _ h2 this.2.2.1 this.2.2.2⟩⟩
    · unfold NL
      rw [upd_ne nwf, upd_ne nqw.symm, upd_same, List.map_append, List.map_append] <;> rfl
    · show LLs _ f' (bs ++ [q]) ((p.players ++ [(⟨n, xs.map decF⟩ : Uw02.Player)]).map fRow)
      rw [List.map_append]
      have e : [(⟨n, xs.map decF⟩ : Uw02.Player)].map fRow = [xs] := by
        show [(xs.map decF).map encF] = [xs]
        rw [enc_dec]
      rw [e]
      exact hB2.more upd_same (fun y hy => (nB y hy).2.2.2) nqf
    · intro r hr2
      rcases List.mem_append.mp hr2 with m | m
      · exact nB r m
      · rw [List.mem_singleton.mp m]
        exact ⟨nql, nqo, nqw, nqf⟩
    · exact nd
end
end RD
namespace RD
open PySem PySem.Spec PyProof.Rows L2
theorem ref_inj : ∀ {as bs : List Addr}, as.map V.ref = bs.map V.ref → as = bs
  | [], [], _ => rfl
  | [], _ :: _, h => by cases h
  | _ :: _, [], h => by cases h
  | a :: as, b :: bs, h => by
    obtain ⟨h1, h2⟩ := List.cons.inj h
    rw [V.ref.inj h1, ref_inj h2]
theorem lst_inj {H : Hp} {o : Addr} {as bs : List Addr} (h1 : H o = some (.lst (as.map V.ref))) (h2 : H o = some (.lst (bs.map V.ref))) : as = bs := by
  rw [h1] at h2
  exact ref_inj (HO.lst.inj (Option.some.inj h2))
/-- the play p at a, all that belongs to it within S -/
structure PO (C : Addr) (H : Hp) (S : Addr → Prop) (a d l o w f : Addr) (p : Uw02.Play) : Prop where
  at_ : PlayAt C H a d l o w f p
  sa : S a
  sd : S d
  sl : S l
  so : S o
  sw : S w
  sf : S f
  ro : ∀ as : List Addr, H o = some (.lst (as.map V.ref)) → ∀ r ∈ as, S r
  rf : ∀ as : List Addr, H f = some (.lst (as.map V.ref)) → ∀ r ∈ as, S r
theorem PO.mono {C : Addr} {H : Hp} {S T : Addr → Prop} {a d l o w f : Addr} {p : Uw02.Play} (h : PO C H S a d l o w f p) (st : ∀ x, S x → T x) : PO C H T a d l o w f p :=
  ⟨h.at_, st _ h.sa, st _ h.sd, st _ h.sl, st _ h.so, st _ h.sw, st _ h.sf, fun as e r m => st _ (h.ro as e r m), fun as e r m => st _ (h.rf as e r m)⟩
/-- where what belongs to the play is as it was -/
theorem PO.move {C : Addr} {H H' : Hp} {S : Addr → Prop} {a d l o w f : Addr} {p : Uw02.Play} (h : PO C H S a d l o w f p) (k : ∀ x u, S x → H x = some u → H' x = some u) : PO C H' S a d l o w f p := by
  obtain ⟨⟨⟨dx, hO⟩, hd, hl, ⟨as, hA, nA⟩, hw, ⟨bs, hB, nB⟩, nd⟩, sa, sd, sl, so, sw, sf, ro, rf⟩ := h
  have hA' : H' o = some (.lst (as.map V.ref)) := k _ _ so hA.lst
  have hB' : H' f = some (.lst (bs.map V.ref)) := k _ _ sf hB.lst
  refine ⟨⟨⟨dx, k _ _ sa hO⟩, k _ _ sd hd, k _ _ sl hl, ⟨as, ⟨hA', hA.len, fun i x e => ?_⟩, nA⟩, k _ _ sw hw, ⟨bs, ⟨hB', hB.len, fun i x e => ?_⟩, nB⟩, nd⟩, sa, sd, sl, so, sw, sf, fun cs e r m => ?_, fun cs e r m => ?_⟩
  · obtain ⟨r, h1, h2⟩ := hA.row i x e
    exact ⟨r, h1, k _ _ (ro as hA.lst r (List.mem_of_getElem? h1)) h2⟩
  · obtain ⟨r, h1, h2⟩ := hB.row i x e
    exact ⟨r, h1, k _ _ (rf bs hB.lst r (List.mem_of_getElem? h1)) h2⟩
  · rw [← lst_inj hA' e] at m
    exact ro as hA.lst r m
  · rw [← lst_inj hB' e] at m
    exact rf bs hB.lst r m
theorem PO.same {C : Addr} {H H' : Hp} {S : Addr → Prop} {a d l o w f : Addr} {p : Uw02.Play} (s : Same H H') (h : PO C H S a d l o w f p) : PO C H' S a d l o w f p := h.move fun x u _ e => s x u e
theorem PO.pr {C : Addr} {H : Hp} {S : Addr → Prop} {a d l o w f : Addr} {p : Uw02.Play} (h : PO C H S a d l o w f p) : PR C H a p := ⟨d, l, o, w, f, h.at_⟩
/-- what a call of the desk hands back: the play behind it, the numbers -/
def RetS (C : Addr) (S : Addr → Prop) (H : Hp) (Q : VK) (a : Addr) (p : Uw02.Play) (ans : List Int) : Prop :=
  ∀ H' r d l o w f, PO C H' (fun x => S x ∨ H x = none) a d l o w f p → (∀ b u, H b = some u → ¬ S b → H' b = some u) → IL H' r ans → H r = none → Q (.ref r) H'
theorem RetS.pure {C : Addr} {S : Addr → Prop} {H : Hp} {Q : VK} {a d l o w f : Addr} {p : Uw02.Play} {ans : List Int} (h : PO C H S a d l o w f p) (k : RetS C S H Q a p ans) : RetIL H Q ans := fun H' r s n e =>
  k H' r d l o w f ((h.same s).mono fun _ z => .inl z) (fun b u q _ => s b u q) e n
def outA (a : Uw02.Ans) : List Int := outR a.v a.l
theorem outA_ok (v : Int) : outA (Uw02.ok v) = [v] := rfl
theorem out_is (a : Uw02.Ans) : Uw02Neutral.out a = outA a := rfl
theorem outR_four {v : Int} : ∀ {rows : List (List Nat)}, (∀ x ∈ rows, x.length = 4) → (outR v rows).length = 1 + 5 * rows.length
  | [], _ => rfl
  | x :: r, h => by
    have ih := outR_four (v := v) (rows := r) fun y hy => h y (List.mem_cons_of_mem _ hy)
    have hx := h x (List.mem_cons_self ..)
    unfold outR at ih ⊢
    rw [List.flatMap_cons, List.length_cons, List.length_append, List.length_cons, toI_len, hx, List.length_cons]
    rw [List.length_cons] at ih
    omega
theorem head_of {f : List Nat → Nat} {cs : List (List Nat)} (h : cs ≠ []) : (keep f cs)[0]? = some ((keep f cs).headD []) := by
  have := keep_ne (f := f) h
  cases k : keep f cs with
  | nil => exact absurd k this
  | cons x r => rfl
theorem head_in {f : List Nat → Nat} {cs : List (List Nat)} (h : cs ≠ []) : (keep f cs).headD [] ∈ cs := keep_mem (List.mem_of_getElem? (head_of h))
section
variable {P : Program} {w : World} {K : PySem.W.Frag} {mg : Str → Option Value} {base : Heap} {C : Addr}
/-! ### begins -/
abbrev sBg : Stmt := top 56
theorem scBg : FnScope ["play", "dress", "refusal"] ["play", "dress"] (defScope sBg) := ⟨rfl, rfl, rfl, by decide +kernel, rfl, by decide +kernel, by decide +kernel⟩
def spBg (C : Addr) : Sp := fun vs H Q _ => ∃ (H0 : Hp) (S : Addr → Prop) (a b d l o w f : Addr) (p : Uw02.Play) (xs : List Nat), vs = [.ref a, .ref b] ∧ Same H0 H ∧ PO C H0 S a d l o w f p ∧ NL H b xs ∧ H0 b = none ∧ xs.length ≤ 20 ∧
  RetS C S H0 Q a (Uw02.step p (.begins xs)).1 (outA (Uw02.step p (.begins xs)).2)
theorem ok_Bg {f f1 : Addr} {fd fd1 : FuncData} (F : Fun K "begins" "begins" sBg f fd) (T : Txt K mg C) (D1 : DefOk P w K mg base "begins_refusal" 2 ["dress"] spBr)
    (G : FnOk P w K mg base CX0 1 f1 fd1 ["self", "dress"] (spBe C)) (b1 : Binds K fd1 ["self", "dress"] []) (m1 : Meth K C "begin" f1) : FnOk P w K mg base CX0 3 f fd ["play", "dress"] (spBg C) := by
  refine F.ok scBg (fun vs H Q E h => ?_) (fun cdv A outer s H vs Q E hr h => ?_)
  · obtain ⟨H0, S, a, b, d, l, o, w', f', p, xs, rfl, _⟩ := h
    rfl
  · obtain ⟨H0, S, a, b, d, l, o, w', f', p, xs, rfl, s0, hP, hx, nb, hz, k⟩ := h
    have hr1 : Room 1 _ := hr.mono (by decide)
    refine ⟨_, pss_cons (ps_set (i := 2) scBg.nd rfl (Or.inl rfl) (pe_def D1 hr rfl (pa_cons (pv 1) pa_nil)))
      (pss_cons (ps_if (pt_cmpR op_lt (pv 2) pe_int (nomark _)) (pss_one (ps_ret (pe_lst (pa_cons (pv 2) pa_nil)))) pss_nil)
      (pss_cons (ps_expr (pe_meth (pv 0) T.cl m1 G hr1 b1 .nil pass0 (pa_cons (pv 1) pa_nil)))
      (pss_one (ps_ret (pe_lst (pa_cons (pe_callB call_len_seq (by rfl) T.len PySem.boot_len (pa_cons (pv 1) pa_nil)) pa_nil)))))), ?_⟩
    rw [step_begins] at k
    refine ⟨_, rfl, b, xs, rfl, hx, fun H1 s1 => ?_⟩
    have s01 : Same H0 H1 := s0.trans s1
    refine ⟨_, rfl, _, _, rfl, rfl, _, rfl, ?_⟩
    by_cases e : begRef xs < 0
    · refine ift (decide_eq_true e) ⟨_, rfl, by show 1 ≤ sizeLine; decide, fun q nq => ?_⟩
      rw [if_pos e] at k
      have s2 := sUpd (o := .lst [.int (begRef xs)]) s01 (s01.free nq)
      exact RetS.pure hP k _ _ s2 (s01.free nq) upd_same
    · rw [if_neg e] at k
      refine ifn (decide_eq_false e) ?_
      have hP1 := hP.same s01
      obtain ⟨dx, hO⟩ := hP1.at_.obj
      have hx1 := hx.same s1
      have nba : b ≠ a := ne_of hx1 hO (by intro q; cases q)
      refine ⟨_, rfl, a, dx, _, rfl, hO, pF_no _ _ _ _ _ (by decide) (by decide) (by decide) (by decide) (by decide), _, rfl, a, b, dx, d, l, o, w', f', xs, rfl, hO, hx1, fun H2 d2 l2 o2 w2 f2 hA hfr hk => ?_⟩
      have hx2 : NL H2 b xs := hk _ _ hx1 nba
      refine ⟨_, rfl, _, _, rfl, .inl (SqL.of hx2), by show 1 ≤ sizeLine; decide, fun q nq => ?_⟩
      have fr0 : ∀ x ∈ [d2, l2, o2, w2, f2], S x ∨ H0 x = none := fun x hx => .inr (s01.free (hfr x hx))
      have hP2 : PO C H2 (fun x => S x ∨ H0 x = none) a d2 l2 o2 w2 f2 ⟨xs, [], []⟩ := by
        refine ⟨hA, .inl hP.sa, fr0 _ (by simp), fr0 _ (by simp), fr0 _ (by simp), fr0 _ (by simp), fr0 _ (by simp), fun as e r m => ?_, fun as e r m => ?_⟩
        · obtain ⟨bs, hB, _⟩ := hA.on
          have : bs = [] := List.length_eq_zero_iff.mp hB.len
          rw [← lst_inj hB.lst e, this] at m
          simp at m
        · obtain ⟨bs, hB, _⟩ := hA.fe
          have : bs = [] := List.length_eq_zero_iff.mp hB.len
          rw [← lst_inj hB.lst e, this] at m
          simp at m
      have nqa : q ≠ a := fun e => by
        obtain ⟨_, z⟩ := hA.obj
        rw [e, z] at nq
        cases nq
      refine k _ _ d2 l2 o2 w2 f2 (hP2.same (sNew nq)) (fun y u e ns => ?_) ?_ (s01.free (Keep.free hk nq nqa))
      · exact sNew nq _ _ (hk _ _ (s01 _ _ e) fun z => ns (by rw [z]; exact hP.sa))
      · unfold IL
        rw [upd_same, List.length_map] <;> rfl
/-! ### scene -/
abbrev sSc : Stmt := top 57
theorem scSc : FnScope ["play", "minutes", "roles", "refusal", "number"] ["play", "minutes", "roles"] (defScope sSc) := ⟨rfl, rfl, rfl, by decide +kernel, rfl, by decide +kernel, by decide +kernel⟩
def spSc (C : Addr) : Sp := fun vs H Q _ => ∃ (H0 : Hp) (S : Addr → Prop) (a b d l o w f : Addr) (p : Uw02.Play) (n : Nat) (xs : List Nat), vs = [.ref a, nv n, .ref b] ∧ Same H0 H ∧ PO C H0 S a d l o w f p ∧ Good p ∧ NL H b xs ∧ H0 b = none ∧ xs.length ≤ 20 ∧
  RetS C S H0 Q a (Uw02.step p (.scene n xs)).1 (outA (Uw02.step p (.scene n xs)).2)
theorem ok_Sc {f f1 : Addr} {fd fd1 : FuncData} (F : Fun K "scene" "scene" sSc f fd) (T : Txt K mg C) (D1 : DefOk P w K mg base "scene_refusal" 2 ["play", "minutes", "roles"] (spSr C))
    (G : FnOk P w K mg base CX0 1 f1 fd1 ["self", "minutes", "roles"] (spPs C)) (b1 : Binds K fd1 ["self", "minutes", "roles"] []) (m1 : Meth K C "put_scene" f1) : FnOk P w K mg base CX0 3 f fd ["play", "minutes", "roles"] (spSc C) := by
  refine F.ok scSc (fun vs H Q E h => ?_) (fun cdv A outer s H vs Q E hr h => ?_)
  · obtain ⟨H0, S, a, b, d, l, o, w', f', p, n, xs, rfl, _⟩ := h
    rfl
  · obtain ⟨H0, S, a, b, d, l, o, w', f', p, n, xs, rfl, s0, hP, g, hx, nb, hz, k⟩ := h
    have hr1 : Room 1 _ := hr.mono (by decide)
    refine ⟨_, pss_cons (ps_set (i := 3) scSc.nd rfl (Or.inl rfl) (pe_def D1 hr rfl (pa_cons (pv 0) (pa_cons (pv 1) (pa_cons (pv 2) pa_nil)))))
      (pss_cons (ps_if (pt_cmpR op_lt (pv 3) pe_int (nomark _)) (pss_one (ps_ret (pe_lst (pa_cons (pv 3) pa_nil)))) pss_nil)
      (pss_cons (ps_set (i := 4) scSc.nd rfl (Or.inl rfl) (pe_callB call_len_seq (by rfl) T.len PySem.boot_len (pa_cons (pe_fld (pv 0) rfl) pa_nil)))
      (pss_cons (ps_expr (pe_meth (pv 0) T.cl m1 G hr1 b1 .nil pass0 (pa_cons (pv 1) (pa_cons (pv 2) pa_nil))))
      (pss_one (ps_ret (pe_lst (pa_cons (pv 4) pa_nil))))))), ?_⟩
    rw [step_scene] at k
    refine ⟨_, rfl, _, rfl, _, rfl, a, b, p, n, xs, rfl, (hP.same s0).pr, hx, hz, fun H1 s1 => ?_⟩
    have s01 : Same H0 H1 := s0.trans s1
    refine ⟨_, rfl, _, _, rfl, rfl, _, rfl, ?_⟩
    by_cases e : sceneRef p n xs < 0
    · refine ift (decide_eq_true e) ⟨_, rfl, by show 1 ≤ sizeLine; decide, fun q nq => ?_⟩
      rw [if_pos e] at k
      have s2 := sUpd (o := .lst [.int (sceneRef p n xs)]) s01 (s01.free nq)
      exact RetS.pure hP k _ _ s2 (s01.free nq) upd_same
    · rw [if_neg e] at k
      refine ifn (decide_eq_false e) ?_
      have hP1 := hP.same s01
      obtain ⟨dx, hO⟩ := hP1.at_.obj
      have hx1 := hx.same s1
      have hs : ((p.scenes.map fun s => s.long).map nv).length = p.scenes.length := by rw [List.length_map, List.length_map]
      refine ⟨_, rfl, _, C, dx, _, _, rfl, hO, T.cl, T.nL, pF_lasts .., _, _, rfl, .inl (SqL.of hP1.at_.la), ?_⟩
      rw [hs]
      refine ⟨_, rfl, a, dx, _, rfl, hO, pF_no _ _ _ _ _ (by decide) (by decide) (by decide) (by decide) (by decide), _, rfl, _, rfl, a, b, d, l, o, w', f', p, n, xs, rfl, hP1.at_, g.sl, hx1, (ne_of_none hP.at_.la nb).symm, fun H2 as q2 ho1 ho2 nq2 hA hk => ?_⟩
      refine ⟨_, rfl, by show 1 ≤ sizeLine; decide, fun q nq => ?_⟩
      have hP2 : PO C H2 (fun x => S x ∨ H0 x = none) a d l o w' f' { p with scenes := p.scenes ++ [⟨n, xs⟩] } := by
        refine ⟨hA, .inl hP.sa, .inl hP.sd, .inl hP.sl, .inl hP.so, .inl hP.sw, .inl hP.sf, fun bs e r m => ?_, fun bs e r m => ?_⟩
        · rw [← lst_inj ho2 e] at m
          rcases List.mem_append.mp m with m | m
          · exact .inl (hP1.ro as ho1 r m)
          · rw [List.mem_singleton.mp m]
            exact .inr (s01.free nq2)
        · obtain ⟨cs, hB, _⟩ := hP1.at_.fe
          obtain ⟨_, ⟨_, _, nlf⟩, ⟨_, nof⟩, _⟩ := nd5 hP1.at_.nd
          have := hk _ _ hB.lst nlf.symm nof.symm
          rw [← lst_inj this e] at m
          exact .inl (hP1.rf cs hB.lst r m)
      have hfree : H1 q = none := by
        cases z : H1 q with
        | none => rfl
        | some u =>
          by_cases c1 : q = l
          · rw [c1, hA.la] at nq
            cases nq
          · by_cases c2 : q = o
            · rw [c2, ho2] at nq
              cases nq
            · rw [hk _ _ z c1 c2] at nq
              cases nq
      refine k _ _ d l o w' f' (hP2.same (sNew nq)) (fun y u e ns => ?_) upd_same (s01.free hfree)
      exact sNew nq _ _ (hk _ _ (s01 _ _ e) (fun z => ns (by rw [z]; exact hP.sl)) fun z => ns (by rw [z]; exact hP.so))
/-! ### player -/
abbrev sPy : Stmt := top 58
theorem scPy : FnScope ["play", "wage", "fees", "refusal", "number"] ["play", "wage", "fees"] (defScope sPy) := ⟨rfl, rfl, rfl, by decide +kernel, rfl, by decide +kernel, by decide +kernel⟩
def spPy (C : Addr) : Sp := fun vs H Q _ => ∃ (H0 : Hp) (S : Addr → Prop) (a b d l o w f : Addr) (p : Uw02.Play) (n : Nat) (xs : List Nat), vs = [.ref a, nv n, .ref b] ∧ Same H0 H ∧ PO C H0 S a d l o w f p ∧ Good p ∧ NL H b xs ∧ H0 b = none ∧ xs.length ≤ 20 ∧
  RetS C S H0 Q a (Uw02.step p (.player n xs)).1 (outA (Uw02.step p (.player n xs)).2)
theorem ok_Py {f f1 : Addr} {fd fd1 : FuncData} (F : Fun K "player" "player" sPy f fd) (T : Txt K mg C) (D1 : DefOk P w K mg base "player_refusal" 2 ["play", "wage", "fees"] (spPr C))
    (G : FnOk P w K mg base CX0 1 f1 fd1 ["self", "wage", "fees"] (spPp C)) (b1 : Binds K fd1 ["self", "wage", "fees"] []) (m1 : Meth K C "put_player" f1) : FnOk P w K mg base CX0 3 f fd ["play", "wage", "fees"] (spPy C) := by
  refine F.ok scPy (fun vs H Q E h => ?_) (fun cdv A outer s H vs Q E hr h => ?_)
  · obtain ⟨H0, S, a, b, d, l, o, w', f', p, n, xs, rfl, _⟩ := h
    rfl
  · obtain ⟨H0, S, a, b, d, l, o, w', f', p, n, xs, rfl, s0, hP, g, hx, nb, hz, k⟩ := h
    have hr1 : Room 1 _ := hr.mono (by decide)
    refine ⟨_, pss_cons (ps_set (i := 3) scPy.nd rfl (Or.inl rfl) (pe_def D1 hr rfl (pa_cons (pv 0) (pa_cons (pv 1) (pa_cons (pv 2) pa_nil)))))
      (pss_cons (ps_if (pt_cmpR op_lt (pv 3) pe_int (nomark _)) (pss_one (ps_ret (pe_lst (pa_cons (pv 3) pa_nil)))) pss_nil)
      (pss_cons (ps_set (i := 4) scPy.nd rfl (Or.inl rfl) (pe_callB call_len_seq (by rfl) T.len PySem.boot_len (pa_cons (pe_fld (pv 0) rfl) pa_nil)))
      (pss_cons (ps_expr (pe_meth (pv 0) T.cl m1 G hr1 b1 .nil pass0 (pa_cons (pv 1) (pa_cons (pv 2) pa_nil))))
      (pss_one (ps_ret (pe_lst (pa_cons (pv 4) pa_nil))))))), ?_⟩
    rw [step_player] at k
    refine ⟨_, rfl, _, rfl, _, rfl, a, b, p, n, xs, rfl, (hP.same s0).pr, hx, fun H1 s1 => ?_⟩
    have s01 : Same H0 H1 := s0.trans s1
    refine ⟨_, rfl, _, _, rfl, rfl, _, rfl, ?_⟩
    by_cases e : playerRef p n xs < 0
    · refine ift (decide_eq_true e) ⟨_, rfl, by show 1 ≤ sizeLine; decide, fun q nq => ?_⟩
      rw [if_pos e] at k
      have s2 := sUpd (o := .lst [.int (playerRef p n xs)]) s01 (s01.free nq)
      exact RetS.pure hP k _ _ s2 (s01.free nq) upd_same
    · rw [if_neg e] at k
      refine ifn (decide_eq_false e) ?_
      have hP1 := hP.same s01
      obtain ⟨dx, hO⟩ := hP1.at_.obj
      have hx1 := hx.same s1
      have pl := g.pl
      have hs : ((p.players.map fun s => s.wage).map nv).length = p.players.length := by rw [List.length_map, List.length_map]
      refine ⟨_, rfl, _, C, dx, _, _, rfl, hO, T.cl, T.nW, pF_wages .., _, _, rfl, .inl (SqL.of hP1.at_.wa), ?_⟩
      rw [hs]
      refine ⟨_, rfl, a, dx, _, rfl, hO, pF_no _ _ _ _ _ (by decide) (by decide) (by decide) (by decide) (by decide), _, rfl, _, rfl, a, b, d, l, o, w', f', p, n, xs, rfl, hP1.at_, by omega, hx1, (ne_of_none hP.at_.wa nb).symm, fun H2 as q2 ho1 ho2 nq2 hA hk => ?_⟩
      refine ⟨_, rfl, by show 1 ≤ sizeLine; decide, fun q nq => ?_⟩
      have hP2 : PO C H2 (fun x => S x ∨ H0 x = none) a d l o w' f' { p with players := p.players ++ [⟨n, xs.map fun x => if x = 0 then none else some (x - 1)⟩] } := by
        refine ⟨hA, .inl hP.sa, .inl hP.sd, .inl hP.sl, .inl hP.so, .inl hP.sw, .inl hP.sf, fun bs e r m => ?_, fun bs e r m => ?_⟩
        · obtain ⟨cs, hB, _⟩ := hP1.at_.on
          obtain ⟨_, _, ⟨now_, nof⟩, _⟩ := nd5 hP1.at_.nd
          have := hk _ _ hB.lst now_ nof
          rw [← lst_inj this e] at m
          exact .inl (hP1.ro cs hB.lst r m)
        · rw [← lst_inj ho2 e] at m
          rcases List.mem_append.mp m with m | m
          · exact .inl (hP1.rf as ho1 r m)
          · rw [List.mem_singleton.mp m]
            exact .inr (s01.free nq2)
      have hfree : H1 q = none := by
        cases z : H1 q with
        | none => rfl
        | some u =>
          by_cases c1 : q = w'
          · rw [c1, hA.wa] at nq
            cases nq
          · by_cases c2 : q = f'
            · rw [c2, ho2] at nq
              cases nq
            · rw [hk _ _ z c1 c2] at nq
              cases nq
      refine k _ _ d l o w' f' (hP2.same (sNew nq)) (fun y u e ns => ?_) upd_same (s01.free hfree)
      exact sNew nq _ _ (hk _ _ (s01 _ _ e) (fun z => ns (by rw [z]; exact hP.sw)) fun z => ns (by rw [z]; exact hP.sf))
end
end RD
namespace RD
open PySem PySem.Spec PyProof.Rows L2
section
variable {P : Program} {w : World} {K : PySem.W.Frag} {mg : Str → Option Value} {base : Heap} {C : Addr}
/-! ### clashes -/
abbrev sCl : Stmt := top 59
theorem scCl : FnScope ["play", "pairs"] ["play"] (defScope sCl) := ⟨rfl, rfl, rfl, by decide +kernel, rfl, by decide +kernel, by decide +kernel⟩
def spCl (C : Addr) : Sp := fun vs H Q _ => ∃ (a : Addr) (p : Uw02.Play), vs = [.ref a] ∧ PR C H a p ∧ Good p ∧ RetIL H Q (outR ((cpairs p).length : Nat) (cpairs p))
theorem ok_Cl {f : Addr} {fd : FuncData} (F : Fun K "clashes" "clashes" sCl f fd) (T : Txt K mg C) (D1 : DefOk P w K mg base "clashing_pairs" 4 ["play"] (spCP C)) (D2 : DefOk P w K mg base "told" 1 ["number", "rows"] spTo) : FnOk P w K mg base CX0 5 f fd ["play"] (spCl C) := by
  refine F.ok scCl (fun vs H Q E h => ?_) (fun cdv A outer s H vs Q E hr h => ?_)
  · obtain ⟨a, p, rfl, _⟩ := h
    rfl
  · obtain ⟨a, p, rfl, R, g, k⟩ := h
    have hr1 : Room 1 _ := hr.mono (by decide)
    refine ⟨_, pss_cons (ps_set (i := 1) scCl.nd rfl (Or.inl rfl) (pe_def D1 hr rfl (pa_cons (pv 0) pa_nil)))
      (pss_one (ps_ret (pe_def D2 hr1 rfl (pa_cons (pe_callB call_len_seq (by rfl) T.len PySem.boot_len (pa_cons (pv 1) pa_nil)) (pa_cons (pv 1) pa_nil))))), ?_⟩
    refine ⟨_, rfl, a, p, rfl, R, g, fun H1 q as s1 n1 hq _ => ?_⟩
    have hl : (as.map V.ref).length = (cpairs p).length := by rw [List.length_map, hq.len]
    refine ⟨_, rfl, _, _, rfl, .inl (SqL.of hq.lst), ?_⟩
    rw [hl]
    refine ⟨_, rfl, ((cpairs p).length : Nat), q, cpairs p, rfl, ⟨as, hq⟩, ?_, k.from s1⟩
    rw [outR_four fun x hx => by obtain ⟨a0, b0, i0, j0, rfl, _⟩ := cpairs_mem hx; rfl]
    have := cpairs_len g.dl
    omega
/-! ### cheapest -/
abbrev sCh : Stmt := top 60
theorem scCh : FnScope ["play", "castings", "costs"] ["play"] (defScope sCh) := ⟨rfl, rfl, rfl, by decide +kernel, rfl, by decide +kernel, by decide +kernel⟩
def spCh (C : Addr) : Sp := fun vs H Q _ => ∃ (a : Addr) (p : Uw02.Play), vs = [.ref a] ∧ PR C H a p ∧ Good p ∧ RetIL H Q (outA (bestAns p p.cost))
theorem len_zero {n : Nat} {m : Int} (hm : m = ((n : Nat) : Int)) (h : n = 0) : decide (V.int m = V.int 0) = true := decide_eq_true (by rw [hm, h] <;> rfl)
theorem len_not {n : Nat} {m : Int} (hm : m = ((n : Nat) : Int)) (h : ¬ n = 0) : decide (V.int m = V.int 0) = false := decide_eq_false fun e => by
  have := V.int.inj e
  omega
theorem ok_Ch {f : Addr} {fd : FuncData} (F : Fun K "cheapest" "cheapest" sCh f fd) (T : Txt K mg C) (D1 : DefOk P w K mg base "right_castings" 6 ["play"] (spRc C)) (D2 : DefOk P w K mg base "costs_of" 4 ["play", "castings"] (spCs C)) (D3 : DefOk P w K mg base "told_choice" 4 ["play", "number", "chosen"] (spTc C))
    (D4 : DefOk P w K mg base "least_ones" 1 ["castings", "measures"] spLo) : FnOk P w K mg base CX0 7 f fd ["play"] (spCh C) := by
  refine F.ok scCh (fun vs H Q E h => ?_) (fun cdv A outer s H vs Q E hr h => ?_)
  · obtain ⟨a, p, rfl, _⟩ := h
    rfl
  · obtain ⟨a, p, rfl, R, g, k⟩ := h
    have hr4 : Room 4 _ := hr.mono (by decide)
    have hr1 : Room 1 _ := hr.mono (by decide)
    refine ⟨_, pss_cons (ps_set (i := 1) scCh.nd rfl (Or.inl rfl) (pe_def D1 hr rfl (pa_cons (pv 0) pa_nil)))
      (pss_cons (ps_if (pt_cmpR op_eq (pe_callB call_len_seq (by rfl) T.len PySem.boot_len (pa_cons (pv 1) pa_nil)) pe_int (nomark _)) (pss_one (ps_ret (pe_lst (pa_cons (pe_un un_neg pe_int) pa_nil)))) pss_nil)
      (pss_cons (ps_set (i := 2) scCh.nd rfl (Or.inl rfl) (pe_def D2 hr4 rfl (pa_cons (pv 0) (pa_cons (pv 1) pa_nil))))
      (pss_one (ps_ret (pe_def D3 hr4 rfl (pa_cons (pv 0) (pa_cons (pe_callB (cr_min rfl) (by rfl) T.min (by decide +kernel) (pa_cons (pv 2) pa_nil)) (pa_cons (pe_def D4 hr1 rfl (pa_cons (pv 1) (pa_cons (pv 2) pa_nil))) pa_nil)))))))), ?_⟩
    refine ⟨_, rfl, a, p, rfl, R, g, fun H1 q s1 n1 hL => ?_⟩
    obtain ⟨as, hq⟩ := hL
    have hl : (as.map V.ref).length = p.casts.length := by rw [List.length_map, hq.len]
    refine ⟨_, rfl, _, _, rfl, .inl (SqL.of hq.lst), rfl, _, rfl, ?_⟩
    by_cases e : p.casts.length = 0
    · have ek : bestAns p p.cost = Uw02.ok (-6) := by unfold bestAns; rw [if_pos e]
      rw [ek, outA_ok] at k
      refine ift (len_zero (n := p.casts.length) (by rw [hl]) e) ⟨_, rfl, by show 1 ≤ sizeLine; decide, fun q2 n2 => ?_⟩
      exact k _ _ (sUpd s1 (s1.free n2)) (s1.free n2) upd_same
    · have hne : p.casts ≠ [] := fun z => e (by rw [z]; rfl)
      have ek : bestAns p p.cost = choiceAns p p.cost p.casts := by unfold bestAns; rw [if_neg e]
      rw [ek] at k
      have hsz := casts_len g.dl g.pl
      refine ifn (len_not (n := p.casts.length) (by rw [hl]) e) ⟨_, rfl, _, rfl, a, q, p, p.casts, rfl, R.same s1, g, ⟨as, hq⟩, fun c hc => casts_able hc, hsz, fun H2 m s2 n2 hm => ?_⟩
      have s12 := s1.trans s2
      refine ⟨_, rfl, _, rfl, m, toI (p.casts.map p.cost), rfl, by rw [ints_map]; exact SqL.of hm, by rw [toI_len, List.length_map]; omega, fun mm h1 h2 => ?_⟩
      obtain rfl := min_toI h1 h2
      refine ⟨_, rfl, _, rfl, q, m, p.casts, p.cost, rfl, LL.same s2 ⟨as, hq⟩, hm, by omega, hsz, fun H3 r s3 n3 hr3 => ?_⟩
      have s13 := s12.trans s3
      exact ⟨a, r, _, p, keep p.cost p.casts, (keep p.cost p.casts).headD [], rfl, R.same s13, g, hr3, head_of hne, casts_able (head_in hne), k.from s13⟩
/-! ### fewest -/
abbrev sFw : Stmt := top 61
theorem scFw : FnScope ["play", "castings", "sizes"] ["play"] (defScope sFw) := ⟨rfl, rfl, rfl, by decide +kernel, rfl, by decide +kernel, by decide +kernel⟩
def spFw (C : Addr) : Sp := fun vs H Q _ => ∃ (a : Addr) (p : Uw02.Play), vs = [.ref a] ∧ PR C H a p ∧ Good p ∧ RetIL H Q (outA (bestAns p (sizeOf p)))
theorem ok_Fw {f : Addr} {fd : FuncData} (F : Fun K "fewest" "fewest" sFw f fd) (T : Txt K mg C) (D1 : DefOk P w K mg base "right_castings" 6 ["play"] (spRc C)) (D2 : DefOk P w K mg base "sizes_of" 2 ["play", "castings"] (spSz C)) (D3 : DefOk P w K mg base "told_choice" 4 ["play", "number", "chosen"] (spTc C))
    (D4 : DefOk P w K mg base "least_ones" 1 ["castings", "measures"] spLo) : FnOk P w K mg base CX0 7 f fd ["play"] (spFw C) := by
  refine F.ok scFw (fun vs H Q E h => ?_) (fun cdv A outer s H vs Q E hr h => ?_)
  · obtain ⟨a, p, rfl, _⟩ := h
    rfl
  · obtain ⟨a, p, rfl, R, g, k⟩ := h
    have hr4 : Room 4 _ := hr.mono (by decide)
    have hr2 : Room 2 _ := hr.mono (by decide)
    have hr1 : Room 1 _ := hr.mono (by decide)
    refine ⟨_, pss_cons (ps_set (i := 1) scFw.nd rfl (Or.inl rfl) (pe_def D1 hr rfl (pa_cons (pv 0) pa_nil)))
      (pss_cons (ps_if (pt_cmpR op_eq (pe_callB call_len_seq (by rfl) T.len PySem.boot_len (pa_cons (pv 1) pa_nil)) pe_int (nomark _)) (pss_one (ps_ret (pe_lst (pa_cons (pe_un un_neg pe_int) pa_nil)))) pss_nil)
      (pss_cons (ps_set (i := 2) scFw.nd rfl (Or.inl rfl) (pe_def D2 hr2 rfl (pa_cons (pv 0) (pa_cons (pv 1) pa_nil))))
      (pss_one (ps_ret (pe_def D3 hr4 rfl (pa_cons (pv 0) (pa_cons (pe_callB (cr_min rfl) (by rfl) T.min (by decide +kernel) (pa_cons (pv 2) pa_nil)) (pa_cons (pe_def D4 hr1 rfl (pa_cons (pv 1) (pa_cons (pv 2) pa_nil))) pa_nil)))))))), ?_⟩
    refine ⟨_, rfl, a, p, rfl, R, g, fun H1 q s1 n1 hL => ?_⟩
    obtain ⟨as, hq⟩ := hL
    have hl : (as.map V.ref).length = p.casts.length := by rw [List.length_map, hq.len]
    refine ⟨_, rfl, _, _, rfl, .inl (SqL.of hq.lst), rfl, _, rfl, ?_⟩
    by_cases e : p.casts.length = 0
    · have ek : bestAns p (sizeOf p) = Uw02.ok (-6) := by unfold bestAns; rw [if_pos e]
      rw [ek, outA_ok] at k
      refine ift (len_zero (n := p.casts.length) (by rw [hl]) e) ⟨_, rfl, by show 1 ≤ sizeLine; decide, fun q2 n2 => ?_⟩
      exact k _ _ (sUpd s1 (s1.free n2)) (s1.free n2) upd_same
    · have hne : p.casts ≠ [] := fun z => e (by rw [z]; rfl)
      have ek : bestAns p (sizeOf p) = choiceAns p (sizeOf p) p.casts := by unfold bestAns; rw [if_neg e]
      rw [ek] at k
      have hsz := casts_len g.dl g.pl
      refine ifn (len_not (n := p.casts.length) (by rw [hl]) e) ⟨_, rfl, _, rfl, a, q, p, p.casts, rfl, R.same s1, g, ⟨as, hq⟩, hsz, fun H2 m s2 n2 hm => ?_⟩
      have s12 := s1.trans s2
      refine ⟨_, rfl, _, rfl, m, toI (p.casts.map (sizeOf p)), rfl, by rw [ints_map]; exact SqL.of hm, by rw [toI_len, List.length_map]; omega, fun mm h1 h2 => ?_⟩
      obtain rfl := min_toI h1 h2
      refine ⟨_, rfl, _, rfl, q, m, p.casts, sizeOf p, rfl, LL.same s2 ⟨as, hq⟩, hm, by omega, hsz, fun H3 r s3 n3 hr3 => ?_⟩
      have s13 := s12.trans s3
      exact ⟨a, r, _, p, keep (sizeOf p) p.casts, (keep (sizeOf p) p.casts).headD [], rfl, R.same s13, g, hr3, head_of hne, casts_able (head_in hne), k.from s13⟩
/-! ### check -/
abbrev sCk : Stmt := top 62
theorem scCk : FnScope ["play", "casting", "refusal", "wrong"] ["play", "casting"] (defScope sCk) := ⟨rfl, rfl, rfl, by decide +kernel, rfl, by decide +kernel, by decide +kernel⟩
def spCk (C : Addr) : Sp := fun vs H Q _ => ∃ (a b : Addr) (p : Uw02.Play) (c : List Nat), vs = [.ref a, .ref b] ∧ PR C H a p ∧ Good p ∧ NL H b c ∧ RetIL H Q (outA (checkAns p c))
theorem wrongL_len (p : Uw02.Play) (c : List Nat) : (wrongL p c).length ≤ 3 := by
  unfold wrongL
  cases p.wrong c with
  | none => simp
  | some x => simp
theorem wrongL_right {p : Uw02.Play} {c : List Nat} (h : ¬ (wrongL p c).length > 0) : p.wrong c = none := by
  unfold wrongL at h
  cases e : p.wrong c with
  | none => rfl
  | some x => rw [e] at h; simp at h
theorem eng_len (p : Uw02.Play) (c : List Nat) : (p.engaged c).length ≤ p.players.length := by
  unfold Uw02.Play.engaged
  have := List.length_filter_le (fun a => c.contains a) (List.range p.players.length)
  rw [List.length_range] at this
  exact this
theorem ok_Ck {f : Addr} {fd : FuncData} (F : Fun K "check" "check" sCk f fd) (T : Txt K mg C) (D1 : DefOk P w K mg base "check_refusal" 2 ["play", "casting"] (spCr C)) (D2 : DefOk P w K mg base "fault" 6 ["play", "casting"] (spFa C)) (D3 : DefOk P w K mg base "told" 1 ["number", "rows"] spTo)
    (D4 : DefOk P w K mg base "cost" 3 ["play", "casting"] (spCo C)) (D5 : DefOk P w K mg base "engaged" 1 ["play", "casting"] (spEn C)) : FnOk P w K mg base CX0 7 f fd ["play", "casting"] (spCk C) := by
  refine F.ok scCk (fun vs H Q E h => ?_) (fun cdv A outer s H vs Q E hr h => ?_)
  · obtain ⟨a, b, p, c, rfl, _⟩ := h
    rfl
  · obtain ⟨a, b, p, c, rfl, R, g, hc, k⟩ := h
    have hr3 : Room 3 _ := hr.mono (by decide)
    have hr2 : Room 2 _ := hr.mono (by decide)
    have hr1 : Room 1 _ := hr.mono (by decide)
    refine ⟨_, pss_cons (ps_set (i := 2) scCk.nd rfl (Or.inl rfl) (pe_def D1 hr2 rfl (pa_cons (pv 0) (pa_cons (pv 1) pa_nil))))
      (pss_cons (ps_if (pt_cmpR op_lt (pv 2) pe_int (nomark _)) (pss_one (ps_ret (pe_lst (pa_cons (pv 2) pa_nil)))) pss_nil)
      (pss_cons (ps_set (i := 3) scCk.nd rfl (Or.inl rfl) (pe_def D2 hr rfl (pa_cons (pv 0) (pa_cons (pv 1) pa_nil))))
      (pss_cons (ps_if (pt_cmpR op_gt (pe_callB call_len_seq (by rfl) T.len PySem.boot_len (pa_cons (pv 3) pa_nil)) pe_int (nomark _)) (pss_one (ps_ret (pe_def D3 hr1 rfl (pa_cons pe_int (pa_cons (pe_lst (pa_cons (pv 3) pa_nil)) pa_nil))))) pss_nil)
      (pss_one (ps_ret (pe_def D3 hr1 rfl (pa_cons pe_int (pa_cons (pe_lst (pa_cons (pe_lst (pa_cons (pe_def D4 hr3 rfl (pa_cons (pv 0) (pa_cons (pv 1) pa_nil))) pa_nil)) (pa_cons (pe_def D5 hr1 rfl (pa_cons (pv 0) (pa_cons (pv 1) pa_nil))) pa_nil))) pa_nil)))))))), ?_⟩
    unfold checkAns at k
    refine ⟨_, rfl, _, rfl, a, b, p, c, rfl, R, hc, fun H1 s1 => ?_⟩
    refine ⟨_, rfl, _, _, rfl, rfl, _, rfl, ?_⟩
    by_cases e : checkRef p c < 0
    · refine ift (decide_eq_true e) ⟨_, rfl, by show 1 ≤ sizeLine; decide, fun q nq => ?_⟩
      rw [if_pos e, outA_ok] at k
      exact k _ _ (sUpd s1 (s1.free nq)) (s1.free nq) upd_same
    rw [if_neg e] at k
    obtain ⟨al, at'⟩ := check_good e
    have dl := g.dl
    have pl := g.pl
    refine ifn (decide_eq_false e) ⟨_, rfl, _, rfl, a, b, p, c, rfl, R.same s1, g, hc.same s1, al, at', fun H2 r s2 n2 hw => ?_⟩
    have s12 := s1.trans s2
    refine ⟨_, rfl, _, _, rfl, .inl (SqL.of hw), _, _, rfl, rfl, _, rfl, ?_⟩
    by_cases e2 : (wrongL p c).length > 0
    · rw [if_pos e2] at k
      refine ift (decide_eq_true (by rw [List.length_map]; omega)) ⟨_, rfl, by show 1 ≤ sizeLine; decide, fun q nq => ?_⟩
      have s3 : Same H2 (upd H2 q (.lst [.ref r])) := sNew nq
      refine ⟨0, q, [wrongL p c], rfl, LL1 upd_same (hw.same s3), ?_, k.from (s12.trans s3)⟩
      have := wrongL_len p c
      unfold outR
      simp only [List.flatMap_cons, List.flatMap_nil, List.length_cons, List.length_append, toI_len, List.length_nil]
      omega
    · rw [if_neg e2] at k
      have ab : Able p c := ⟨al, at', (wrong_none.mp (wrongL_right e2)).1⟩
      refine ifn (decide_eq_false (by rw [List.length_map]; omega)) ⟨_, rfl, _, rfl, a, b, p, c, rfl, R.same s12, g, hc.same s12, ab, fun H3 s3 => ⟨by show 1 ≤ sizeLine; decide, fun q1 n1 => ?_⟩⟩
      have s13 : Same H H3 := s12.trans s3
      have s14 : Same H (upd H3 q1 (.lst [nv (p.cost c)])) := sUpd s13 (s13.free n1)
      refine ⟨_, rfl, _, rfl, a, b, p, c, rfl, R.same s14, g, hc.same s14, fun H4 e4 s4 n4 he4 => ⟨by show 2 ≤ sizeLine; decide, fun q2 n2' => ?_⟩⟩
      have s5 : Same H4 (upd H4 q2 (.lst [.ref q1, .ref e4])) := sNew n2'
      have hq1 : NL H4 q1 [p.cost c] := s4 _ _ upd_same
      refine ⟨1, q2, [[p.cost c], p.engaged c], rfl, LL2 upd_same (hq1.same s5) (he4.same s5), ?_, k.from ((s14.trans s4).trans s5)⟩
      have := eng_len p c
      unfold outR
      simp only [List.flatMap_cons, List.flatMap_nil, List.length_cons, List.length_append, toI_len, List.length_nil]
      omega
/-! ### ill -/
abbrev sIl : Stmt := top 63
theorem scIl : FnScope ["play", "away", "castings", "others", "costs", "more"] ["play", "away"] (defScope sIl) := ⟨rfl, rfl, rfl, by decide +kernel, rfl, by decide +kernel, by decide +kernel⟩
def spIl (C : Addr) : Sp := fun vs H Q _ => ∃ (a : Addr) (p : Uw02.Play) (x : Nat), vs = [.ref a, nv x] ∧ PR C H a p ∧ Good p ∧ RetIL H Q (outA (illAns p x))
theorem ok_Il {f : Addr} {fd : FuncData} (F : Fun K "ill" "ill" sIl f fd) (T : Txt K mg C) (D1 : DefOk P w K mg base "right_castings" 6 ["play"] (spRc C)) (D2 : DefOk P w K mg base "without" 1 ["castings", "player"] spWo) (D3 : DefOk P w K mg base "costs_of" 4 ["play", "castings"] (spCs C))
    (D4 : DefOk P w K mg base "told" 1 ["number", "rows"] spTo) (D5 : DefOk P w K mg base "least_ones" 1 ["castings", "measures"] spLo) : FnOk P w K mg base CX0 7 f fd ["play", "away"] (spIl C) := by
  refine F.ok scIl (fun vs H Q E h => ?_) (fun cdv A outer s H vs Q E hr h => ?_)
  · obtain ⟨a, p, x, rfl, _⟩ := h
    rfl
  · obtain ⟨a, p, x, rfl, R, g, k⟩ := h
    have hr4 : Room 4 _ := hr.mono (by decide)
    have hr1 : Room 1 _ := hr.mono (by decide)
    refine ⟨_, pss_cons (ps_if (pt_cmpR op_ge (pv 1) (pe_callB call_len_seq (by rfl) T.len PySem.boot_len (pa_cons (pe_fld (pv 0) rfl) pa_nil)) (nomark _)) (pss_one (ps_ret (pe_lst (pa_cons (pe_un un_neg pe_int) pa_nil)))) pss_nil)
      (pss_cons (ps_set (i := 2) scIl.nd rfl (Or.inl rfl) (pe_def D1 hr rfl (pa_cons (pv 0) pa_nil)))
      (pss_cons (ps_if (pt_cmpR op_eq (pe_callB call_len_seq (by rfl) T.len PySem.boot_len (pa_cons (pv 2) pa_nil)) pe_int (nomark _)) (pss_one (ps_ret (pe_lst (pa_cons (pe_un un_neg pe_int) pa_nil)))) pss_nil)
      (pss_cons (ps_set (i := 3) scIl.nd rfl (Or.inl rfl) (pe_def D2 hr1 rfl (pa_cons (pv 2) (pa_cons (pv 1) pa_nil))))
      (pss_cons (ps_if (pt_cmpR op_eq (pe_callB call_len_seq (by rfl) T.len PySem.boot_len (pa_cons (pv 3) pa_nil)) pe_int (nomark _)) (pss_one (ps_ret (pe_lst (pa_cons (pe_un un_neg pe_int) pa_nil)))) pss_nil)
      (pss_cons (ps_set (i := 4) scIl.nd rfl (Or.inl rfl) (pe_def D3 hr4 rfl (pa_cons (pv 0) (pa_cons (pv 3) pa_nil))))
      (pss_cons (ps_set (i := 5) scIl.nd rfl (Or.inl rfl) (pe_op op_sub (pe_callB (cr_min rfl) (by rfl) T.min (by decide +kernel) (pa_cons (pv 4) pa_nil)) (pe_callB (cr_min rfl) (by rfl) T.min (by decide +kernel) (pa_cons (pe_def D3 hr4 rfl (pa_cons (pv 0) (pa_cons (pv 2) pa_nil))) pa_nil))))
      (pss_one (ps_ret (pe_def D4 hr1 rfl (pa_cons (pv 5) (pa_cons (pe_lst (pa_cons (pe_ix ix_list (pe_def D5 hr1 rfl (pa_cons (pv 3) (pa_cons (pv 4) pa_nil))) pe_int (fun _ _ => rfl)) pa_nil)) pa_nil))))))))))), ?_⟩
    have R0 := R
    obtain ⟨d, l, o, w', f', R⟩ := R
    obtain ⟨dx, hO⟩ := R.obj
    have hw : ((p.players.map fun x => x.wage).map nv).length = p.players.length := by rw [List.length_map, List.length_map]
    unfold illAns at k
    refine ⟨_, rfl, _, rfl, _, C, dx, _, _, rfl, hO, T.cl, T.nW, pF_wages .., _, _, rfl, .inl (SqL.of R.wa), ?_⟩
    rw [hw]
    refine ⟨_, _, rfl, rfl, _, rfl, ?_⟩
    by_cases e0 : p.players.length ≤ x
    · rw [if_pos e0, outA_ok] at k
      refine ift (decide_eq_true (by omega)) ⟨_, rfl, by show 1 ≤ sizeLine; decide, fun q nq => ?_⟩
      exact k _ _ (sNew nq) nq upd_same
    rw [if_neg e0] at k
    refine ifn (decide_eq_false (by omega)) ⟨_, rfl, a, p, rfl, R0, g, fun H1 q s1 n1 hL => ?_⟩
    obtain ⟨as, hq⟩ := hL
    have hl : (as.map V.ref).length = p.casts.length := by rw [List.length_map, hq.len]
    refine ⟨_, rfl, _, _, rfl, .inl (SqL.of hq.lst), rfl, _, rfl, ?_⟩
    by_cases e1 : p.casts.length = 0
    · rw [if_pos e1, outA_ok] at k
      refine ift (len_zero (n := p.casts.length) (by rw [hl]) e1) ⟨_, rfl, by show 1 ≤ sizeLine; decide, fun q2 n2 => ?_⟩
      exact k _ _ (sUpd s1 (s1.free n2)) (s1.free n2) upd_same
    rw [if_neg e1] at k
    have hsz := casts_len g.dl g.pl
    refine ifn (len_not (n := p.casts.length) (by rw [hl]) e1) ⟨_, rfl, _, rfl, q, p.casts, x, rfl, ⟨as, hq⟩, hsz, fun H2 q2 s2 n2 hL2 => ?_⟩
    have hL2 : LL H2 q2 (others p x) := hL2
    obtain ⟨bs, hq2⟩ := hL2
    have s12 := s1.trans s2
    have hl2 : (bs.map V.ref).length = (others p x).length := by rw [List.length_map, hq2.len]
    have hoz : (others p x).length ≤ 15625 := Nat.le_trans (List.length_filter_le _ _) hsz
    refine ⟨_, rfl, _, _, rfl, .inl (SqL.of hq2.lst), rfl, _, rfl, ?_⟩
    by_cases e2 : (others p x).length = 0
    · rw [if_pos e2, outA_ok] at k
      refine ift (len_zero (n := (others p x).length) (by rw [hl2]) e2) ⟨_, rfl, by show 1 ≤ sizeLine; decide, fun q3 n3 => ?_⟩
      exact k _ _ (sUpd s12 (s12.free n3)) (s12.free n3) upd_same
    rw [if_neg e2] at k
    have hne : others p x ≠ [] := fun z => e2 (by rw [z]; rfl)
    have hoa : ∀ c ∈ others p x, Able p c := fun c hc => casts_able (List.mem_filter.mp hc).1
    refine ifn (len_not (n := (others p x).length) (by rw [hl2]) e2) ⟨_, rfl, _, rfl, a, q2, p, others p x, rfl, R0.same s12, g, ⟨bs, hq2⟩, hoa, hoz, fun H3 m s3 n3 hm => ?_⟩
    have s13 := s12.trans s3
    refine ⟨_, rfl, m, toI ((others p x).map p.cost), rfl, by rw [ints_map]; exact SqL.of hm, by rw [toI_len, List.length_map]; omega, fun mm h1 h2 => ?_⟩
    obtain rfl := min_toI h1 h2
    refine ⟨_, rfl, _, rfl, a, q, p, p.casts, rfl, R0.same s13, g, LL.same (s2.trans s3) ⟨as, hq⟩, fun c hc => casts_able hc, hsz, fun H4 m2 s4 n4 hm2 => ?_⟩
    have s14 := s13.trans s4
    refine ⟨m2, toI (p.casts.map p.cost), rfl, by rw [ints_map]; exact SqL.of hm2, by rw [toI_len, List.length_map]; omega, fun mm h1 h2 => ?_⟩
    obtain rfl := min_toI h1 h2
    refine ⟨_, _, rfl, rfl, ?_⟩
    refine ⟨_, rfl, _, rfl, _, rfl, q2, m, others p x, p.cost, rfl, LL.same (s3.trans s4) ⟨bs, hq2⟩, hm.same s4, by omega, hoz, fun H5 r s5 n5 hr5 => ?_⟩
    obtain ⟨cs, hr5⟩ := hr5
    obtain ⟨y, hy, hyr⟩ := hr5.row 0 _ (head_of hne)
    have s15 := s14.trans s5
    refine ⟨_, _, _, _, rfl, rfl, SqL.of hr5.lst, at_of (j := 0) (v := .ref y) rfl (by rw [List.getElem?_map, hy] <;> rfl), by show 1 ≤ sizeLine; decide, fun q6 n6 => ?_⟩
    have s6 : Same H5 (upd H5 q6 (.lst [.ref y])) := sNew n6
    refine ⟨_, q6, [(keep p.cost (others p x)).headD []], rfl, LL1 upd_same (hyr.same s6), ?_, k.from (s15.trans s6)⟩
    have h1 := (hoa _ (head_in (f := p.cost) hne)).len
    have h2 := g.dl
    unfold outR
    simp only [List.flatMap_cons, List.flatMap_nil, List.length_cons, List.length_append, toI_len, List.length_nil]
    have h3 : ((keep p.cost (others p x)).headD []).length ≤ 6 := by
      rw [h1]
      exact h2
    omega
end
end RD
namespace RD
open PySem PySem.Spec PyProof.Rows L2
section
variable {P : Program} {w : World} {K : PySem.W.Frag} {mg : Str → Option Value} {base : Heap} {C : Addr}
/-! ### call_answer -/
abbrev sAn : Stmt := top 64
theorem scAn : FnScope ["play", "calls", "at", "word"] ["play", "calls", "at"] (defScope sAn) := ⟨rfl, rfl, rfl, by decide +kernel, rfl, by decide +kernel, by decide +kernel⟩
def spAn (K : PySem.W.Frag) (C : Addr) : Sp := fun vs H Q _ => ∃ (S : Addr → Prop) (a b d l o w f : Addr) (p : Uw02.Play) (ns pre rest : List Int) (c : Uw02.Call), vs = [.ref a, .ref b, nv pre.length] ∧ PO C H S a d l o w f p ∧ Good p ∧ SqL K H b (ns.map V.int) ∧
  ns = pre ++ (encC c ++ rest) ∧ Small c ∧ RetS C S H Q a (Uw02.step p c).1 (outA (Uw02.step p c).2)
/-- what the desk's calls rest on -/
structure Desk (P : Program) (w : World) (K : PySem.W.Frag) (mg : Str → Option Value) (base : Heap) (C : Addr) : Prop where
  bg : DefOk P w K mg base "begins" 3 ["play", "dress"] (spBg C)
  sc : DefOk P w K mg base "scene" 3 ["play", "minutes", "roles"] (spSc C)
  py : DefOk P w K mg base "player" 3 ["play", "wage", "fees"] (spPy C)
  cl : DefOk P w K mg base "clashes" 5 ["play"] (spCl C)
  ch : DefOk P w K mg base "cheapest" 7 ["play"] (spCh C)
  fw : DefOk P w K mg base "fewest" 7 ["play"] (spFw C)
  ck : DefOk P w K mg base "check" 7 ["play", "casting"] (spCk C)
  il : DefOk P w K mg base "ill" 7 ["play", "away"] (spIl C)
  ra : DefOk P w K mg base "row_at" 1 ["calls", "at"] (spRa K)
  sg : DefOk P w K mg base "single_at" 1 ["calls", "at"] (spSg K)
/-- the calls' numbers -/
structure Nums (mg : Str → Option Value) : Prop where
  c0 : IC mg "BEGINS" 0
  c1 : IC mg "SCENE" 1
  c2 : IC mg "PLAYER" 2
  c3 : IC mg "CLASHES" 3
  c4 : IC mg "CHEAPEST" 4
  c5 : IC mg "FEWEST" 5
  c6 : IC mg "CHECK" 6
theorem w_no {n : Nat} {k : Int} (h : ¬ (n : Int) = k) : decide (V.int ((n : Nat) : Int) = V.int k) = false := decide_eq_false fun e => h (V.int.inj e)
theorem w_yes {n : Nat} {k : Int} (h : (n : Int) = k) : decide (V.int ((n : Nat) : Int) = V.int k) = true := decide_eq_true (congrArg V.int h)
theorem ok_An {f : Addr} {fd : FuncData} (F : Fun K "call_answer" "call_answer" sAn f fd) (D : Desk P w K mg base C) (N : Nums mg) : FnOk P w K mg base CX0 8 f fd ["play", "calls", "at"] (spAn K C) := by
  refine F.ok scAn (fun vs H Q E h => ?_) (fun cdv A outer s H vs Q E hr h => ?_)
  · obtain ⟨S, a, b, d, l, o, w', f', p, ns, pre, rest, c, rfl, _⟩ := h
    rfl
  · obtain ⟨S, a, b, d, l, o, w', f', p, ns, pre, rest, c, rfl, hP, g, hS, hn, hsm, k⟩ := h
    have hr1 : Room 1 _ := hr.mono (by decide)
    have hr3 : Room 3 _ := hr.mono (by decide)
    have hr5 : Room 5 _ := hr.mono (by decide)
    refine ⟨_, pss_cons (ps_set (i := 3) scAn.nd rfl (Or.inl rfl) (pe_ix ix_list (pv 1) (pv 2) (fun _ _ => rfl)))
      (pss_cons (ps_if (pt_cmpR op_eq (pv 3) (pe_ic N.c0 rfl) (nomark _)) (pss_one (ps_ret (pe_def D.bg hr3 rfl (pa_cons (pv 0) (pa_cons (pe_def D.ra hr1 rfl (pa_cons (pv 1) (pa_cons (pv 2) pa_nil))) pa_nil))))) pss_nil)
      (pss_cons (ps_if (pt_cmpR op_eq (pv 3) (pe_ic N.c1 rfl) (nomark _)) (pss_one (ps_ret (pe_def D.sc hr3 rfl (pa_cons (pv 0) (pa_cons (pe_def D.sg hr1 rfl (pa_cons (pv 1) (pa_cons (pv 2) pa_nil))) (pa_cons (pe_def D.ra hr1 rfl (pa_cons (pv 1) (pa_cons (pv 2) pa_nil))) pa_nil)))))) pss_nil)
      (pss_cons (ps_if (pt_cmpR op_eq (pv 3) (pe_ic N.c2 rfl) (nomark _)) (pss_one (ps_ret (pe_def D.py hr3 rfl (pa_cons (pv 0) (pa_cons (pe_def D.sg hr1 rfl (pa_cons (pv 1) (pa_cons (pv 2) pa_nil))) (pa_cons (pe_def D.ra hr1 rfl (pa_cons (pv 1) (pa_cons (pv 2) pa_nil))) pa_nil)))))) pss_nil)
      (pss_cons (ps_if (pt_cmpR op_eq (pv 3) (pe_ic N.c3 rfl) (nomark _)) (pss_one (ps_ret (pe_def D.cl hr5 rfl (pa_cons (pv 0) pa_nil)))) pss_nil)
      (pss_cons (ps_if (pt_cmpR op_eq (pv 3) (pe_ic N.c4 rfl) (nomark _)) (pss_one (ps_ret (pe_def D.ch hr rfl (pa_cons (pv 0) pa_nil)))) pss_nil)
      (pss_cons (ps_if (pt_cmpR op_eq (pv 3) (pe_ic N.c5 rfl) (nomark _)) (pss_one (ps_ret (pe_def D.fw hr rfl (pa_cons (pv 0) pa_nil)))) pss_nil)
      (pss_cons (ps_if (pt_cmpR op_eq (pv 3) (pe_ic N.c6 rfl) (nomark _)) (pss_one (ps_ret (pe_def D.ck hr rfl (pa_cons (pv 0) (pa_cons (pe_def D.ra hr1 rfl (pa_cons (pv 1) (pa_cons (pv 2) pa_nil))) pa_nil))))) pss_nil)
      (pss_one (ps_ret (pe_def D.il hr rfl (pa_cons (pv 0) (pa_cons (pe_def D.sg hr1 rfl (pa_cons (pv 1) (pa_cons (pv 2) pa_nil))) pa_nil)))))))))))), ?_⟩
    have hw := enc_at hn (enc_word c)
    refine ⟨_, rfl, _, rfl, _, _, _, _, rfl, rfl, hS, at_int hw, ?_⟩
    cases c with
    | begins xs =>
      refine ⟨_, rfl, rfl, _, rfl, ift (w_yes rfl) ⟨_, rfl, _, rfl, _, rfl, b, ns, pre, rest, .begins xs, xs, rfl, hS, hn, rfl, fun H1 q s1 n1 hq => ?_⟩⟩
      exact ⟨H, S, a, q, d, l, o, w', f', p, xs, rfl, s1, hP, hq, n1, hsm, k⟩
    | scene n xs =>
      refine ⟨_, rfl, rfl, _, rfl, ifn (w_no (n := 1) (by decide)) ⟨_, rfl, rfl, _, rfl, ift (w_yes rfl) ⟨_, rfl, _, rfl, _, rfl, b, ns, pre, rest, .scene n xs, n, rfl, hS, hn, rfl, fun H1 s1 => ?_⟩⟩⟩
      refine ⟨_, rfl, _, rfl, b, ns, pre, rest, .scene n xs, xs, rfl, s1.seq hS, hn, rfl, fun H2 q s2 n2 hq => ?_⟩
      exact ⟨H, S, a, q, d, l, o, w', f', p, n, xs, rfl, s1.trans s2, hP, g, hq, s1.free n2, hsm, k⟩
    | player n xs =>
      refine ⟨_, rfl, rfl, _, rfl, ifn (w_no (n := 2) (by decide)) ⟨_, rfl, rfl, _, rfl, ifn (w_no (n := 2) (by decide)) ⟨_, rfl, rfl, _, rfl, ift (w_yes rfl) ⟨_, rfl, _, rfl, _, rfl, b, ns, pre, rest, .player n xs, n, rfl, hS, hn, rfl, fun H1 s1 => ?_⟩⟩⟩⟩
      refine ⟨_, rfl, _, rfl, b, ns, pre, rest, .player n xs, xs, rfl, s1.seq hS, hn, rfl, fun H2 q s2 n2 hq => ?_⟩
      exact ⟨H, S, a, q, d, l, o, w', f', p, n, xs, rfl, s1.trans s2, hP, g, hq, s1.free n2, hsm, k⟩
    | clashes =>
      rw [step_clashes] at k
      refine ⟨_, rfl, rfl, _, rfl, ifn (w_no (n := 3) (by decide)) ⟨_, rfl, rfl, _, rfl, ifn (w_no (n := 3) (by decide)) ⟨_, rfl, rfl, _, rfl, ifn (w_no (n := 3) (by decide)) ⟨_, rfl, rfl, _, rfl, ift (w_yes rfl) ⟨_, rfl, a, p, rfl, hP.pr, g, ?_⟩⟩⟩⟩⟩
      exact RetS.pure hP k
    | cheapest =>
      rw [step_cheapest] at k
      refine ⟨_, rfl, rfl, _, rfl, ifn (w_no (n := 4) (by decide)) ⟨_, rfl, rfl, _, rfl, ifn (w_no (n := 4) (by decide)) ⟨_, rfl, rfl, _, rfl, ifn (w_no (n := 4) (by decide)) ⟨_, rfl, rfl, _, rfl, ifn (w_no (n := 4) (by decide)) ⟨_, rfl, rfl, _, rfl, ift (w_yes rfl) ⟨_, rfl, a, p, rfl, hP.pr, g, ?_⟩⟩⟩⟩⟩⟩
      exact RetS.pure hP k
    | fewest =>
      rw [step_fewest] at k
      refine ⟨_, rfl, rfl, _, rfl, ifn (w_no (n := 5) (by decide)) ⟨_, rfl, rfl, _, rfl, ifn (w_no (n := 5) (by decide)) ⟨_, rfl, rfl, _, rfl, ifn (w_no (n := 5) (by decide)) ⟨_, rfl, rfl, _, rfl, ifn (w_no (n := 5) (by decide)) ⟨_, rfl, rfl, _, rfl, ifn (w_no (n := 5) (by decide)) ⟨_, rfl, rfl, _, rfl, ift (w_yes rfl) ⟨_, rfl, a, p, rfl, hP.pr, g, ?_⟩⟩⟩⟩⟩⟩⟩
      exact RetS.pure hP k
    | check xs =>
      rw [step_check] at k
      refine ⟨_, rfl, rfl, _, rfl, ifn (w_no (n := 6) (by decide)) ⟨_, rfl, rfl, _, rfl, ifn (w_no (n := 6) (by decide)) ⟨_, rfl, rfl, _, rfl, ifn (w_no (n := 6) (by decide)) ⟨_, rfl, rfl, _, rfl, ifn (w_no (n := 6) (by decide)) ⟨_, rfl, rfl, _, rfl, ifn (w_no (n := 6) (by decide)) ⟨_, rfl, rfl, _, rfl, ifn (w_no (n := 6) (by decide)) ⟨_, rfl, rfl, _, rfl, ift (w_yes rfl)
        ⟨_, rfl, _, rfl, _, rfl, b, ns, pre, rest, .check xs, xs, rfl, hS, hn, rfl, fun H1 q s1 n1 hq => ?_⟩⟩⟩⟩⟩⟩⟩⟩
      exact ⟨a, q, p, xs, rfl, hP.pr.same s1, g, hq, (RetS.pure hP k).from s1⟩
    | ill x =>
      rw [step_ill] at k
      refine ⟨_, rfl, rfl, _, rfl, ifn (w_no (n := 7) (by decide)) ⟨_, rfl, rfl, _, rfl, ifn (w_no (n := 7) (by decide)) ⟨_, rfl, rfl, _, rfl, ifn (w_no (n := 7) (by decide)) ⟨_, rfl, rfl, _, rfl, ifn (w_no (n := 7) (by decide)) ⟨_, rfl, rfl, _, rfl, ifn (w_no (n := 7) (by decide)) ⟨_, rfl, rfl, _, rfl, ifn (w_no (n := 7) (by decide)) ⟨_, rfl, rfl, _, rfl, ifn (w_no (n := 7) (by decide))
        ⟨_, rfl, _, rfl, _, rfl, b, ns, pre, rest, .ill x, x, rfl, hS, hn, rfl, fun H1 s1 => ?_⟩⟩⟩⟩⟩⟩⟩⟩
      exact ⟨a, p, x, rfl, hP.pr.same s1, g, (RetS.pure hP k).from s1⟩
/-! ### answers -/
abbrev sAw : Stmt := top 66
theorem scAw : FnScope ["calls", "play", "said", "at", "answer"] ["calls"] (defScope sAw) := ⟨rfl, rfl, rfl, by decide +kernel, rfl, by decide +kernel, by decide +kernel⟩
def spAw (K : PySem.W.Frag) : Sp := fun vs H Q _ => ∃ (b : Addr) (cs : List Uw02.Call), vs = [.ref b] ∧ SqL K H b ((cs.flatMap encC).map V.int) ∧ cs.length ≤ 40 ∧ (∀ x ∈ cs, Small x) ∧ sizes (runs Uw02.init cs) ≤ 1000000 ∧
  ∀ (H' : Hp) (r : Addr), IL H' r (told (runs Uw02.init cs)) → Q (.ref r) H'
theorem ok_Aw {f f1 : Addr} {fd fd1 : FuncData} (F : Fun K "answers" "answers" sAw f fd) (T : Txt K mg C) (M : Mk K C f1) (G : FnOk P w K mg base CX0 1 f1 fd1 ["self"] (spIn C)) (b1 : Binds K fd1 ["self"] [])
    (D1 : DefOk P w K mg base "call_places" 2 ["calls"] (spPl K)) (D2 : DefOk P w K mg base "call_answer" 8 ["play", "calls", "at"] (spAn K C)) : FnOk P w K mg base CX0 9 f fd ["calls"] (spAw K) := by
  refine F.ok scAw (fun vs H Q E h => ?_) (fun cdv A outer s H vs Q E hr h => ?_)
  · obtain ⟨b, cs, rfl, _⟩ := h
    rfl
  · obtain ⟨b, cs, rfl, hS, hlen, hsm, hsz, k⟩ := h
    have hr2 : Room 2 _ := hr.mono (by decide)
    refine ⟨_, pss_cons (ps_set (i := 1) scAw.nd rfl (Or.inl rfl) (pe_make0 M G hr2 rfl T.gC b1 .nil pass0))
      (pss_cons (ps_set (i := 2) scAw.nd rfl (Or.inl rfl) (pe_lst pa_nil))
      (pss_cons (ps_for PassesOwn.never rfl (pi_list (pe_def D1 hr2 rfl (pa_cons (pv 0) pa_nil))) (pg_name (i := 3) scAw.nd rfl (Or.inl rfl))
        (pss_cons (ps_set (i := 4) scAw.nd rfl (Or.inl rfl) (pe_def D2 hr rfl (pa_cons (pv 1) (pa_cons (pv 0) (pa_cons (pv 3) pa_nil)))))
        (pss_cons (ps_expr (pe_bm PySem.F.plainAttrs_list PySem.F.slot_list_append PySem.F.type_list_append mt_append (pv 2) (pa_cons (pe_callB call_len_seq (by rfl) T.len PySem.boot_len (pa_cons (pv 4) pa_nil)) pa_nil)))
        (pss_one (ps_expr (pe_bm PySem.F.plainAttrs_list PySem.F.slot_list_extend PySem.F.type_list_extend mt_extend (pv 2) (pa_cons (pv 4) pa_nil)))))))
      (pss_one (ps_ret (pv 2))))), ?_⟩
    intro a dx na nd ne
    refine ⟨a, dx, rfl, upd_same, fun H1 d l o w' f' hA hfr hk => ⟨rfl, ?_⟩⟩
    have s1 : Same H H1 := fun x u e => hk x u (by rw [upd_ne (ne_of_none e na), upd_ne (ne_of_none e nd)]; exact e) (ne_of_none e na)
    have nfr : ∀ x ∈ [d, l, o, w', f'], H x = none := fun x hx => by
      cases e : H x with
      | none => rfl
      | some u =>
        have := hfr x hx
        rw [upd_ne (ne_of_none e na), upd_ne (ne_of_none e nd), e] at this
        cases this
    -- what belongs to the play: what stands now and did not before
    have hP0 : PO C H1 (fun x => H1 x ≠ none ∧ H x = none) a d l o w' f' Uw02.init := by
      refine ⟨hA, ?_, ⟨some_ne hA.dr, nfr _ (by simp)⟩, ⟨some_ne hA.la, nfr _ (by simp)⟩, ?_, ⟨some_ne hA.wa, nfr _ (by simp)⟩, ?_, fun as e r m => ?_, fun as e r m => ?_⟩
      · obtain ⟨_, z⟩ := hA.obj
        exact ⟨some_ne z, na⟩
      · obtain ⟨_, z, _⟩ := hA.on
        exact ⟨some_ne z.lst, nfr _ (by simp)⟩
      · obtain ⟨_, z, _⟩ := hA.fe
        exact ⟨some_ne z.lst, nfr _ (by simp)⟩
      · obtain ⟨bs, hB, _⟩ := hA.on
        have : bs = [] := List.length_eq_zero_iff.mp hB.len
        rw [← lst_inj hB.lst e, this] at m
        simp at m
      · obtain ⟨bs, hB, _⟩ := hA.fe
        have : bs = [] := List.length_eq_zero_iff.mp hB.len
        rw [← lst_inj hB.lst e, this] at m
        simp at m
    refine ⟨by show 0 ≤ sizeLine; decide, fun q nq => ?_⟩
    have s2 : Same H1 (upd H1 q (.lst [])) := sNew nq
    refine ⟨_, rfl, b, cs, rfl, (s1.trans s2).seq hS, hlen, fun H3 pl s3 npl hpl => ?_⟩
    have s03 : Same H H3 := (s1.trans s2).trans s3
    refine ⟨pl, rfl, ⟨_, SqL.of hpl⟩, for_list (K := K) (a := pl) (xs := (places 0 cs).map nv) (fun i σ H' => ∃ (S : Addr → Prop) (d l o w f : Addr) (v3 v4 : Option V), σ = [some (.ref b), some (.ref a), some (.ref q), v3, v4] ∧
      PO C H' S a d l o w f (after Uw02.init (cs.take i)) ∧ Same H H' ∧ (∀ x u, H x = some u → ¬ S x) ∧ ¬ S q ∧ ¬ S pl ∧ q ≠ pl ∧ NL H' pl (places 0 cs) ∧ IL H' q (told (runs Uw02.init (cs.take i))))
      ⟨_, d, l, o, w', f', none, none, rfl, hP0.same (s2.trans s3), s03, fun x u e z => ?_, fun z => z.1 nq, fun z => z.1 (s2.free npl), fun e => ?_, hpl, s3 _ _ upd_same⟩ (fun i σ H' _ ⟨_, _, _, _, _, _, _, _, _, _, _, _, _, _, _, h, _⟩ => SqL.of h) ?_ ?_⟩
    · rw [z.2] at e
      cases e
    · rw [← e, upd_same] at npl
      cases npl
    · rintro i y σ H' hi ⟨S, d2, l2, o2, w2, f2, v3, v4, rfl, hP, sH, hnS, nSq, nSp, nqp, hpl2, hq⟩
      rw [List.getElem?_map, Option.map_eq_some_iff] at hi
      obtain ⟨x, hx, rfl⟩ := hi
      have hi2 : i < cs.length := by
        have := (List.getElem?_eq_some_iff.mp hx).1
        rw [places_len] at this
        exact this
      obtain ⟨c, hc⟩ := get_lt hi2
      have hxe := places_get (k := 0) hc
      rw [hx, Nat.zero_add] at hxe
      obtain rfl := Option.some.inj hxe
      have hbd := runs_bound hsz hlen (i + 1)
      have hrm := runs_more (p := Uw02.init) hc
      have ham := after_more (p := Uw02.init) hc
      refine ⟨_, rfl, _, rfl, _, rfl, S, a, b, d2, l2, o2, w2, f2, after Uw02.init (cs.take i), cs.flatMap encC, (cs.take i).flatMap encC, (cs.drop (i + 1)).flatMap encC, c, rfl, hP, good_after good_init, sH.seq hS, split_at hc, hsm c (List.mem_of_getElem? hc), fun H4 r d4 l4 o4 w4 f4 hP4 hfr4 hr4 nr => ?_⟩
      have hq4 : IL H4 q (told (runs Uw02.init (cs.take i))) := hfr4 _ _ hq nSq
      have hpl4 : NL H4 pl (places 0 cs) := hfr4 _ _ hpl2 nSp
      have nrq : r ≠ q := fun e => by rw [e, hq] at nr; cases nr
      have nSq4 : ¬ (S q ∨ H' q = none) := fun z => z.elim nSq fun z => by rw [hq] at z; cases z
      have nSp4 : ¬ (S pl ∨ H' pl = none) := fun z => z.elim nSp fun z => by rw [hpl2] at z; cases z
      have nH4 : ∀ x u, H x = some u → ¬ (S x ∨ H' x = none) := fun x u e z => z.elim (hnS x u e) fun z => by rw [sH x u e] at z; cases z
      have sH4 : Same H H4 := fun x u e => hfr4 _ _ (sH x u e) (hnS x u e)
      have nHq : H q = none := by
        cases e : H q with
        | none => rfl
        | some u => rw [s1 _ _ e] at nq; cases nq
      have et : told (runs Uw02.init (cs.take (i + 1))) = (told (runs Uw02.init (cs.take i)) ++ [((outA (Uw02.step (after Uw02.init (cs.take i)) c).2).length : Int)]) ++ outA (Uw02.step (after Uw02.init (cs.take i)) c).2 := by
        rw [hrm, told_app, out_is]
        unfold told
        rw [List.flatMap_cons, List.flatMap_nil, List.append_nil, List.append_assoc] <;> rfl
      have el := congrArg List.length et
      rw [List.length_append, List.length_append] at el
      have e1 : ([((outA (Uw02.step (after Uw02.init (cs.take i)) c).2).length : Int)] : List Int).length = 1 := rfl
      refine ⟨_, rfl, .inl ⟨rfl, _, SqL.of hq4⟩, _, rfl, _, _, rfl, .inl (SqL.of hr4), q, _, _, rfl, rfl, hq4, by rw [List.length_map]; exact line_nat (by omega), ?_⟩
      refine ⟨_, rfl, .inl ⟨rfl, _, SqL.of upd_same⟩, _, rfl, q, r, _, _, rfl, rfl, upd_same, by rw [upd_ne nrq]; exact hr4, ?_, ?_⟩
      · rw [List.length_append, List.length_map, List.length_map]
        show _ + 1 + _ ≤ _
        exact line_le (by omega)
      · refine ⟨fun x => S x ∨ H' x = none, d4, l4, o4, w4, f4, _, _, rfl, ?_, sUpd (sUpd sH4 nHq) nHq, nH4, nSq4, nSp4, nqp, ?_, ?_⟩
        · rw [ham]
          refine hP4.move fun x u hs e => ?_
          have nx : x ≠ q := fun e2 => nSq4 (by rw [← e2]; exact hs)
          rw [upd_ne nx, upd_ne nx]
          exact e
        · unfold NL
          rw [upd_ne nqp.symm, upd_ne nqp.symm]
          exact hpl4
        · unfold IL
          rw [upd_same, et, List.map_append, List.map_append, List.length_map] <;> rfl
    · rintro σ H' ⟨S, d2, l2, o2, w2, f2, v3, v4, rfl, hP, sH, hnS, nSq, nSp, nqp, hpl2, hq⟩
      rw [List.length_map, places_len, List.take_length] at hq
      exact ⟨_, rfl, k _ _ hq⟩
end
end RD
namespace RD
open PySem PySem.Spec PyProof.Rows L2
open PySem.W (Codec)
/-! ### The end: what the top has written. Printed by gen_end.py -/
/-- the def st stands at f, by the name x -/
structure DefIn (K : PySem.W.Frag) (x : Str) (st : Stmt) (f : Addr) : Prop where
  ex : ∃ (oc : Value) (od : Option Addr) (kV dc pm : Value) (an : Option Addr) (cd ct : Value) (sl : Array (Option Value)), PySem.W.nsIn K mainGlobals x = some (some (.ref f)) ∧ K.lookup f = some ⟨oc, od, .func (PySem.W.fnOf x x (defArgs st) (defBody st) (defScope st) .none kV dc pm an cd ct), sl⟩ ∧ PySem.W.codeIn K cd x = true ∧ PySem.W.keepIn K (.ref f) = true
theorem defIn_mk {K : PySem.W.Frag} {x : Str} {st : Stmt} {f : Addr} {oc : Value} {od : Option Addr} {kV dc pm : Value} {an : Option Addr} {cd ct : Value} {sl : Array (Option Value)} (a : PySem.W.nsIn K mainGlobals x = some (some (.ref f))) (l : K.lookup f = some ⟨oc, od, .func (PySem.W.fnOf x x (defArgs st) (defBody st) (defScope st) .none kV dc pm an cd ct), sl⟩) (c : PySem.W.codeIn K cd x = true) (k : PySem.W.keepIn K (.ref f) = true) : DefIn K x st f := ⟨_, _, _, _, _, _, _, _, _, a, l, c, k⟩
theorem DefIn.fn {K : PySem.W.Frag} {h : Heap} {mg : Str → Option Value} {x : Str} {st : Stmt} {f : Addr} (X : K.In h) (G : h.Ns mainGlobals mg) (D : DefIn K x st f) : ∃ fd, mg x = some (.ref f) ∧ Fun K x x st f fd := by
  obtain ⟨oc, od, kV, dc, pm, an, cd, ct, sl, a, l, c, k⟩ := D.ex
  exact ⟨_, PySem.W.mg_of X G a, fun_mk l c k⟩
/-- the method m of the class at C -/
structure MethIn (K : PySem.W.Frag) (C : Addr) (m q : Str) (st : Stmt) (f : Addr) : Prop where
  ex : ∃ (oc : Value) (od : Option Addr) (kV dc pm : Value) (an : Option Addr) (cd ct : Value) (sl : Array (Option Value)), PySem.W.findIn K (.ref C) m = some (some (.ref f)) ∧ PySem.W.isFn K (.ref f) = true ∧ K.lookup f = some ⟨oc, od, .func (PySem.W.fnOf m q (defArgs st) (defBody st) (defScope st) .none kV dc pm an cd ct), sl⟩ ∧ PySem.W.codeIn K cd q = true ∧ PySem.W.keepIn K (.ref f) = true
theorem methIn_mk {K : PySem.W.Frag} {C : Addr} {m q : Str} {st : Stmt} {f : Addr} {oc : Value} {od : Option Addr} {kV dc pm : Value} {an : Option Addr} {cd ct : Value} {sl : Array (Option Value)} (a : PySem.W.findIn K (.ref C) m = some (some (.ref f))) (i : PySem.W.isFn K (.ref f) = true) (l : K.lookup f = some ⟨oc, od, .func (PySem.W.fnOf m q (defArgs st) (defBody st) (defScope st) .none kV dc pm an cd ct), sl⟩) (c : PySem.W.codeIn K cd q = true) (k : PySem.W.keepIn K (.ref f) = true) : MethIn K C m q st f := ⟨_, _, _, _, _, _, _, _, _, a, i, l, c, k⟩
theorem MethIn.fn {K : PySem.W.Frag} {C : Addr} {m q : Str} {st : Stmt} {f : Addr} (D : MethIn K C m q st f) : ∃ fd, Meth K C m f ∧ Fun K m q st f fd := by
  obtain ⟨oc, od, kV, dc, pm, an, cd, ct, sl, a, i, l, c, k⟩ := D.ex
  exact ⟨_, ⟨a, i, k⟩, fun_mk l c k⟩
/-- a tuple constant -/
structure TupIn (K : PySem.W.Frag) (x : Str) (t : Addr) (xs : List Nat) : Prop where
  ex : ∃ (od : Option Addr) (its : Array Value) (n : Nat) (sl : Array (Option Value)), PySem.W.nsIn K mainGlobals x = some (some (.ref t)) ∧ K.lookup t = some ⟨.type "tuple", od, .seq its n, sl⟩ ∧ its.size ≤ sizeLine ∧ Vals (xs.map nv) its.toList
theorem tupIn_mk {K : PySem.W.Frag} {x : Str} {t : Addr} {xs : List Nat} {od : Option Addr} {its : Array Value} {n : Nat} {sl : Array (Option Value)} (a : PySem.W.nsIn K mainGlobals x = some (some (.ref t))) (l : K.lookup t = some ⟨.type "tuple", od, .seq its n, sl⟩) (z : its.size ≤ sizeLine) (v : Vals (xs.map nv) its.toList) : TupIn K x t xs := ⟨_, _, _, _, a, l, z, v⟩
theorem TupIn.tc {K : PySem.W.Frag} {h : Heap} {mg : Str → Option Value} {x : Str} {t : Addr} {xs : List Nat} (X : K.In h) (G : h.Ns mainGlobals mg) (D : TupIn K x t xs) : TC K mg x t xs := by
  obtain ⟨od, its, n, sl, a, l, z, v⟩ := D.ex
  exact ⟨PySem.W.mg_of X G a, fun H => .inr ⟨_, its, n, l, rfl, rfl, z, v⟩⟩
theorem all_mk {P : Program} {w : World} {K : PySem.W.Frag} {h : Heap} {mg : Str → Option Value} {fa C tS tR f_MB f_CA f_SO f_FC f_CP f_LF f_Cn f_En f_Wa f_Fe f_Co f_Un f_Me f_Fa f_Fi f_Om f_Rc f_Cs f_Sz f_Lo f_Wo f_Si f_Pl f_Sg f_Ra f_Ab f_Ri f_Br f_Sr f_Pr f_Cr f_To f_Tc f_Bg f_Sc f_Py f_Cl f_Ch f_Fw f_Ck f_Il f_An f_Aw f_In f_Be f_Ps f_Pp : Addr} (X : K.In h) (G : h.Ns mainGlobals mg) (hfa : mg "answers" = some (.ref fa))
    (aC : PySem.W.nsIn K mainGlobals "Play" = some (some (.ref C)))
    (pg : PySem.W.plainGet K C Str.empty = true) (hd : PySem.W.hasDictIn K C = true) (po : PySem.W.plainOver K C = true) (sa : PySem.W.findIn K (.ref C) "__setattr__" = some (some (.builtin "object.__setattr__"))) (mk : PySem.W.makesIn K C = true) (kc : PySem.W.keepIn K (.ref C) = true)
    (nD : PySem.W.findIn K (.ref C) "dress" = some none)
    (nL : PySem.W.findIn K (.ref C) "lasts" = some none)
    (nO : PySem.W.findIn K (.ref C) "onstage" = some none)
    (nW : PySem.W.findIn K (.ref C) "wages" = some none)
    (nF : PySem.W.findIn K (.ref C) "fees" = some none)
    (z_len : PySem.W.nsIn K mainGlobals "len" = some none)
    (z_range : PySem.W.nsIn K mainGlobals "range" = some none)
    (z_list : PySem.W.nsIn K mainGlobals "list" = some none)
    (z_min : PySem.W.nsIn K mainGlobals "min" = some none)
    {t_BEGINS t_SCENE t_PLAYER t_CLASHES t_CHEAPEST t_FEWEST t_CHECK t_MOST_ROLES t_MOST_MINUTES t_MOST_SCENES t_MOST_PLAYERS t_MOST_MONEY : Tok}
    (i_BEGINS : PySem.W.nsIn K mainGlobals "BEGINS" = some (some (.int 0 t_BEGINS)))
    (i_SCENE : PySem.W.nsIn K mainGlobals "SCENE" = some (some (.int 1 t_SCENE)))
    (i_PLAYER : PySem.W.nsIn K mainGlobals "PLAYER" = some (some (.int 2 t_PLAYER)))
    (i_CLASHES : PySem.W.nsIn K mainGlobals "CLASHES" = some (some (.int 3 t_CLASHES)))
    (i_CHEAPEST : PySem.W.nsIn K mainGlobals "CHEAPEST" = some (some (.int 4 t_CHEAPEST)))
    (i_FEWEST : PySem.W.nsIn K mainGlobals "FEWEST" = some (some (.int 5 t_FEWEST)))
    (i_CHECK : PySem.W.nsIn K mainGlobals "CHECK" = some (some (.int 6 t_CHECK)))
    (i_MOST_ROLES : PySem.W.nsIn K mainGlobals "MOST_ROLES" = some (some (.int 6 t_MOST_ROLES)))
    (i_MOST_MINUTES : PySem.W.nsIn K mainGlobals "MOST_MINUTES" = some (some (.int 1000 t_MOST_MINUTES)))
    (i_MOST_SCENES : PySem.W.nsIn K mainGlobals "MOST_SCENES" = some (some (.int 10 t_MOST_SCENES)))
    (i_MOST_PLAYERS : PySem.W.nsIn K mainGlobals "MOST_PLAYERS" = some (some (.int 5 t_MOST_PLAYERS)))
    (i_MOST_MONEY : PySem.W.nsIn K mainGlobals "MOST_MONEY" = some (some (.int 100000 t_MOST_MONEY)))
    (tupS : TupIn K "SINGLES" tS SINGS) (tupR : TupIn K "ROWS" tR ROWSL)
    (d_In : MethIn K C "__init__" "Play.__init__" sIn f_In)
    (d_Be : MethIn K C "begin" "Play.begin" sBe f_Be)
    (d_Ps : MethIn K C "put_scene" "Play.put_scene" sPs f_Ps)
    (d_Pp : MethIn K C "put_player" "Play.put_player" sPp f_Pp)
    (d_MB : DefIn K "minutes_between" sMB f_MB)
    (d_CA : DefIn K "clash_at" sCA f_CA)
    (d_SO : DefIn K "scenes_of" sSO f_SO)
    (d_FC : DefIn K "first_clash" sFC f_FC)
    (d_CP : DefIn K "clashing_pairs" sCP f_CP)
    (d_LF : DefIn K "lower_foes" sLF f_LF)
    (d_Cn : DefIn K "can_play" sCn f_Cn)
    (d_En : DefIn K "engaged" sEn f_En)
    (d_Wa : DefIn K "wages_of" sWa f_Wa)
    (d_Fe : DefIn K "fees_of" sFe f_Fe)
    (d_Co : DefIn K "cost" sCo f_Co)
    (d_Un : DefIn K "unable" sUn f_Un)
    (d_Me : DefIn K "meeting" sMe f_Me)
    (d_Fa : DefIn K "fault" sFa f_Fa)
    (d_Fi : DefIn K "fits" sFi f_Fi)
    (d_Om : DefIn K "one_role_more" sOm f_Om)
    (d_Rc : DefIn K "right_castings" sRc f_Rc)
    (d_Cs : DefIn K "costs_of" sCs f_Cs)
    (d_Sz : DefIn K "sizes_of" sSz f_Sz)
    (d_Lo : DefIn K "least_ones" sLo f_Lo)
    (d_Wo : DefIn K "without" sWo f_Wo)
    (d_Si : DefIn K "call_size" sSi f_Si)
    (d_Pl : DefIn K "call_places" sPl f_Pl)
    (d_Sg : DefIn K "single_at" sSg f_Sg)
    (d_Ra : DefIn K "row_at" sRa f_Ra)
    (d_Ab : DefIn K "one_above" sAb f_Ab)
    (d_Ri : DefIn K "rising" sRi f_Ri)
    (d_Br : DefIn K "begins_refusal" sBr f_Br)
    (d_Sr : DefIn K "scene_refusal" sSr f_Sr)
    (d_Pr : DefIn K "player_refusal" sPr f_Pr)
    (d_Cr : DefIn K "check_refusal" sCr f_Cr)
    (d_To : DefIn K "told" sTo f_To)
    (d_Tc : DefIn K "told_choice" sTc f_Tc)
    (d_Bg : DefIn K "begins" sBg f_Bg)
    (d_Sc : DefIn K "scene" sSc f_Sc)
    (d_Py : DefIn K "player" sPy f_Py)
    (d_Cl : DefIn K "clashes" sCl f_Cl)
    (d_Ch : DefIn K "cheapest" sCh f_Ch)
    (d_Fw : DefIn K "fewest" sFw f_Fw)
    (d_Ck : DefIn K "check" sCk f_Ck)
    (d_Il : DefIn K "ill" sIl f_Il)
    (d_An : DefIn K "call_answer" sAn f_An)
    (d_Aw : DefIn K "answers" sAw f_Aw) :
    ∃ fd : FuncData, (∀ (s : Shared) (us : List Value), us.length = (["calls"] : List Str).length → BindsTo s fd ⟨us, []⟩ ((["calls"] : List Str).zip us)) ∧ ∀ base : Heap, K.In base → base.Ns mainGlobals mg → FnOk P w K mg base CX0 9 fa fd ["calls"] (spAw K) := by
  have T : Txt K mg C := ⟨⟨pg, hd, po, sa⟩, nD, nL, nO, nW, nF, PySem.W.mg_of X G aC, PySem.W.mg_none_of X G z_len, PySem.W.mg_none_of X G z_range, PySem.W.mg_none_of X G z_list, PySem.W.mg_none_of X G z_min⟩
  have k_BEGINS : IC mg "BEGINS" 0 := ⟨_, PySem.W.mg_of X G i_BEGINS⟩
  have k_SCENE : IC mg "SCENE" 1 := ⟨_, PySem.W.mg_of X G i_SCENE⟩
  have k_PLAYER : IC mg "PLAYER" 2 := ⟨_, PySem.W.mg_of X G i_PLAYER⟩
  have k_CLASHES : IC mg "CLASHES" 3 := ⟨_, PySem.W.mg_of X G i_CLASHES⟩
  have k_CHEAPEST : IC mg "CHEAPEST" 4 := ⟨_, PySem.W.mg_of X G i_CHEAPEST⟩
  have k_FEWEST : IC mg "FEWEST" 5 := ⟨_, PySem.W.mg_of X G i_FEWEST⟩
  have k_CHECK : IC mg "CHECK" 6 := ⟨_, PySem.W.mg_of X G i_CHECK⟩
  have k_MOST_ROLES : IC mg "MOST_ROLES" 6 := ⟨_, PySem.W.mg_of X G i_MOST_ROLES⟩
  have k_MOST_MINUTES : IC mg "MOST_MINUTES" 1000 := ⟨_, PySem.W.mg_of X G i_MOST_MINUTES⟩
  have k_MOST_SCENES : IC mg "MOST_SCENES" 10 := ⟨_, PySem.W.mg_of X G i_MOST_SCENES⟩
  have k_MOST_PLAYERS : IC mg "MOST_PLAYERS" 5 := ⟨_, PySem.W.mg_of X G i_MOST_PLAYERS⟩
  have k_MOST_MONEY : IC mg "MOST_MONEY" 100000 := ⟨_, PySem.W.mg_of X G i_MOST_MONEY⟩
  have TS := tupS.tc X G
  have TR := tupR.tc X G
  obtain ⟨fd_In, m_In, F_In⟩ := d_In.fn
  have b_In := F_In.binds (ps := ["self"]) fun _ _ _ _ _ _ us hl => match us, hl with | [_], _ => rfl
  obtain ⟨fd_Be, m_Be, F_Be⟩ := d_Be.fn
  have b_Be := F_Be.binds (ps := ["self", "dress"]) fun _ _ _ _ _ _ us hl => match us, hl with | [_, _], _ => rfl
  obtain ⟨fd_Ps, m_Ps, F_Ps⟩ := d_Ps.fn
  have b_Ps := F_Ps.binds (ps := ["self", "minutes", "roles"]) fun _ _ _ _ _ _ us hl => match us, hl with | [_, _, _], _ => rfl
  obtain ⟨fd_Pp, m_Pp, F_Pp⟩ := d_Pp.fn
  have b_Pp := F_Pp.binds (ps := ["self", "wage", "fees"]) fun _ _ _ _ _ _ us hl => match us, hl with | [_, _, _], _ => rfl
  obtain ⟨fd_MB, g_MB, F_MB⟩ := d_MB.fn X G
  have b_MB := F_MB.binds (ps := ["lasts", "early", "late"]) fun _ _ _ _ _ _ us hl => match us, hl with | [_, _, _], _ => rfl
  obtain ⟨fd_CA, g_CA, F_CA⟩ := d_CA.fn X G
  have b_CA := F_CA.binds (ps := ["play", "one", "one_scene", "other", "other_scene"]) fun _ _ _ _ _ _ us hl => match us, hl with | [_, _, _, _, _], _ => rfl
  obtain ⟨fd_SO, g_SO, F_SO⟩ := d_SO.fn X G
  have b_SO := F_SO.binds (ps := ["play", "role"]) fun _ _ _ _ _ _ us hl => match us, hl with | [_, _], _ => rfl
  obtain ⟨fd_FC, g_FC, F_FC⟩ := d_FC.fn X G
  have b_FC := F_FC.binds (ps := ["play", "low", "high"]) fun _ _ _ _ _ _ us hl => match us, hl with | [_, _, _], _ => rfl
  obtain ⟨fd_CP, g_CP, F_CP⟩ := d_CP.fn X G
  have b_CP := F_CP.binds (ps := ["play"]) fun _ _ _ _ _ _ us hl => match us, hl with | [_], _ => rfl
  obtain ⟨fd_LF, g_LF, F_LF⟩ := d_LF.fn X G
  have b_LF := F_LF.binds (ps := ["play"]) fun _ _ _ _ _ _ us hl => match us, hl with | [_], _ => rfl
  obtain ⟨fd_Cn, g_Cn, F_Cn⟩ := d_Cn.fn X G
  have b_Cn := F_Cn.binds (ps := ["play", "player", "role"]) fun _ _ _ _ _ _ us hl => match us, hl with | [_, _, _], _ => rfl
  obtain ⟨fd_En, g_En, F_En⟩ := d_En.fn X G
  have b_En := F_En.binds (ps := ["play", "casting"]) fun _ _ _ _ _ _ us hl => match us, hl with | [_, _], _ => rfl
  obtain ⟨fd_Wa, g_Wa, F_Wa⟩ := d_Wa.fn X G
  have b_Wa := F_Wa.binds (ps := ["play", "casting"]) fun _ _ _ _ _ _ us hl => match us, hl with | [_, _], _ => rfl
  obtain ⟨fd_Fe, g_Fe, F_Fe⟩ := d_Fe.fn X G
  have b_Fe := F_Fe.binds (ps := ["play", "casting"]) fun _ _ _ _ _ _ us hl => match us, hl with | [_, _], _ => rfl
  obtain ⟨fd_Co, g_Co, F_Co⟩ := d_Co.fn X G
  have b_Co := F_Co.binds (ps := ["play", "casting"]) fun _ _ _ _ _ _ us hl => match us, hl with | [_, _], _ => rfl
  obtain ⟨fd_Un, g_Un, F_Un⟩ := d_Un.fn X G
  have b_Un := F_Un.binds (ps := ["play", "casting"]) fun _ _ _ _ _ _ us hl => match us, hl with | [_, _], _ => rfl
  obtain ⟨fd_Me, g_Me, F_Me⟩ := d_Me.fn X G
  have b_Me := F_Me.binds (ps := ["play", "casting"]) fun _ _ _ _ _ _ us hl => match us, hl with | [_, _], _ => rfl
  obtain ⟨fd_Fa, g_Fa, F_Fa⟩ := d_Fa.fn X G
  have b_Fa := F_Fa.binds (ps := ["play", "casting"]) fun _ _ _ _ _ _ us hl => match us, hl with | [_, _], _ => rfl
  obtain ⟨fd_Fi, g_Fi, F_Fi⟩ := d_Fi.fn X G
  have b_Fi := F_Fi.binds (ps := ["foes", "casting", "role", "player"]) fun _ _ _ _ _ _ us hl => match us, hl with | [_, _, _, _], _ => rfl
  obtain ⟨fd_Om, g_Om, F_Om⟩ := d_Om.fn X G
  have b_Om := F_Om.binds (ps := ["play", "foes", "castings", "role"]) fun _ _ _ _ _ _ us hl => match us, hl with | [_, _, _, _], _ => rfl
  obtain ⟨fd_Rc, g_Rc, F_Rc⟩ := d_Rc.fn X G
  have b_Rc := F_Rc.binds (ps := ["play"]) fun _ _ _ _ _ _ us hl => match us, hl with | [_], _ => rfl
  obtain ⟨fd_Cs, g_Cs, F_Cs⟩ := d_Cs.fn X G
  have b_Cs := F_Cs.binds (ps := ["play", "castings"]) fun _ _ _ _ _ _ us hl => match us, hl with | [_, _], _ => rfl
  obtain ⟨fd_Sz, g_Sz, F_Sz⟩ := d_Sz.fn X G
  have b_Sz := F_Sz.binds (ps := ["play", "castings"]) fun _ _ _ _ _ _ us hl => match us, hl with | [_, _], _ => rfl
  obtain ⟨fd_Lo, g_Lo, F_Lo⟩ := d_Lo.fn X G
  have b_Lo := F_Lo.binds (ps := ["castings", "measures"]) fun _ _ _ _ _ _ us hl => match us, hl with | [_, _], _ => rfl
  obtain ⟨fd_Wo, g_Wo, F_Wo⟩ := d_Wo.fn X G
  have b_Wo := F_Wo.binds (ps := ["castings", "player"]) fun _ _ _ _ _ _ us hl => match us, hl with | [_, _], _ => rfl
  obtain ⟨fd_Si, g_Si, F_Si⟩ := d_Si.fn X G
  have b_Si := F_Si.binds (ps := ["calls", "at"]) fun _ _ _ _ _ _ us hl => match us, hl with | [_, _], _ => rfl
  obtain ⟨fd_Pl, g_Pl, F_Pl⟩ := d_Pl.fn X G
  have b_Pl := F_Pl.binds (ps := ["calls"]) fun _ _ _ _ _ _ us hl => match us, hl with | [_], _ => rfl
  obtain ⟨fd_Sg, g_Sg, F_Sg⟩ := d_Sg.fn X G
  have b_Sg := F_Sg.binds (ps := ["calls", "at"]) fun _ _ _ _ _ _ us hl => match us, hl with | [_, _], _ => rfl
  obtain ⟨fd_Ra, g_Ra, F_Ra⟩ := d_Ra.fn X G
  have b_Ra := F_Ra.binds (ps := ["calls", "at"]) fun _ _ _ _ _ _ us hl => match us, hl with | [_, _], _ => rfl
  obtain ⟨fd_Ab, g_Ab, F_Ab⟩ := d_Ab.fn X G
  have b_Ab := F_Ab.binds (ps := ["numbers", "most"]) fun _ _ _ _ _ _ us hl => match us, hl with | [_, _], _ => rfl
  obtain ⟨fd_Ri, g_Ri, F_Ri⟩ := d_Ri.fn X G
  have b_Ri := F_Ri.binds (ps := ["numbers"]) fun _ _ _ _ _ _ us hl => match us, hl with | [_], _ => rfl
  obtain ⟨fd_Br, g_Br, F_Br⟩ := d_Br.fn X G
  have b_Br := F_Br.binds (ps := ["dress"]) fun _ _ _ _ _ _ us hl => match us, hl with | [_], _ => rfl
  obtain ⟨fd_Sr, g_Sr, F_Sr⟩ := d_Sr.fn X G
  have b_Sr := F_Sr.binds (ps := ["play", "minutes", "roles"]) fun _ _ _ _ _ _ us hl => match us, hl with | [_, _, _], _ => rfl
  obtain ⟨fd_Pr, g_Pr, F_Pr⟩ := d_Pr.fn X G
  have b_Pr := F_Pr.binds (ps := ["play", "wage", "fees"]) fun _ _ _ _ _ _ us hl => match us, hl with | [_, _, _], _ => rfl
  obtain ⟨fd_Cr, g_Cr, F_Cr⟩ := d_Cr.fn X G
  have b_Cr := F_Cr.binds (ps := ["play", "casting"]) fun _ _ _ _ _ _ us hl => match us, hl with | [_, _], _ => rfl
  obtain ⟨fd_To, g_To, F_To⟩ := d_To.fn X G
  have b_To := F_To.binds (ps := ["number", "rows"]) fun _ _ _ _ _ _ us hl => match us, hl with | [_, _], _ => rfl
  obtain ⟨fd_Tc, g_Tc, F_Tc⟩ := d_Tc.fn X G
  have b_Tc := F_Tc.binds (ps := ["play", "number", "chosen"]) fun _ _ _ _ _ _ us hl => match us, hl with | [_, _, _], _ => rfl
  obtain ⟨fd_Bg, g_Bg, F_Bg⟩ := d_Bg.fn X G
  have b_Bg := F_Bg.binds (ps := ["play", "dress"]) fun _ _ _ _ _ _ us hl => match us, hl with | [_, _], _ => rfl
  obtain ⟨fd_Sc, g_Sc, F_Sc⟩ := d_Sc.fn X G
  have b_Sc := F_Sc.binds (ps := ["play", "minutes", "roles"]) fun _ _ _ _ _ _ us hl => match us, hl with | [_, _, _], _ => rfl
  obtain ⟨fd_Py, g_Py, F_Py⟩ := d_Py.fn X G
  have b_Py := F_Py.binds (ps := ["play", "wage", "fees"]) fun _ _ _ _ _ _ us hl => match us, hl with | [_, _, _], _ => rfl
  obtain ⟨fd_Cl, g_Cl, F_Cl⟩ := d_Cl.fn X G
  have b_Cl := F_Cl.binds (ps := ["play"]) fun _ _ _ _ _ _ us hl => match us, hl with | [_], _ => rfl
  obtain ⟨fd_Ch, g_Ch, F_Ch⟩ := d_Ch.fn X G
  have b_Ch := F_Ch.binds (ps := ["play"]) fun _ _ _ _ _ _ us hl => match us, hl with | [_], _ => rfl
  obtain ⟨fd_Fw, g_Fw, F_Fw⟩ := d_Fw.fn X G
  have b_Fw := F_Fw.binds (ps := ["play"]) fun _ _ _ _ _ _ us hl => match us, hl with | [_], _ => rfl
  obtain ⟨fd_Ck, g_Ck, F_Ck⟩ := d_Ck.fn X G
  have b_Ck := F_Ck.binds (ps := ["play", "casting"]) fun _ _ _ _ _ _ us hl => match us, hl with | [_, _], _ => rfl
  obtain ⟨fd_Il, g_Il, F_Il⟩ := d_Il.fn X G
  have b_Il := F_Il.binds (ps := ["play", "away"]) fun _ _ _ _ _ _ us hl => match us, hl with | [_, _], _ => rfl
  obtain ⟨fd_An, g_An, F_An⟩ := d_An.fn X G
  have b_An := F_An.binds (ps := ["play", "calls", "at"]) fun _ _ _ _ _ _ us hl => match us, hl with | [_, _, _], _ => rfl
  obtain ⟨fd_Aw, g_Aw, F_Aw⟩ := d_Aw.fn X G
  have b_Aw := F_Aw.binds (ps := ["calls"]) fun _ _ _ _ _ _ us hl => match us, hl with | [_], _ => rfl
  have e := hfa.symm.trans g_Aw
  cases e
  refine ⟨fd_Aw, ?_, fun base _ _ => ?_⟩
  · intro s us hu
    obtain ⟨oc, od, kV, dc, pm, an, cd, ct, sl, rfl, _⟩ := F_Aw.ex
    exact match us, hu with | [_], _ => .of_eq rfl
  have G_In : FnOk P w K mg base CX0 1 f_In fd_In ["self"] (spIn C) := ok_In F_In T
  have G_Be : FnOk P w K mg base CX0 1 f_Be fd_Be ["self", "dress"] (spBe C) := ok_Be F_Be T
  have G_Ps : FnOk P w K mg base CX0 1 f_Ps fd_Ps ["self", "minutes", "roles"] (spPs C) := ok_Ps F_Ps T
  have G_Pp : FnOk P w K mg base CX0 1 f_Pp fd_Pp ["self", "wage", "fees"] (spPp C) := ok_Pp F_Pp T
  have D_MB : DefOk P w K mg base "minutes_between" 1 ["lasts", "early", "late"] spMB := ⟨f_MB, fd_MB, g_MB, F_MB.kp, b_MB, ok_MB F_MB T⟩
  have D_CA : DefOk P w K mg base "clash_at" 2 ["play", "one", "one_scene", "other", "other_scene"] (spCA C) := ⟨f_CA, fd_CA, g_CA, F_CA.kp, b_CA, ok_CA F_CA T D_MB⟩
  have D_SO : DefOk P w K mg base "scenes_of" 1 ["play", "role"] (spSO C) := ⟨f_SO, fd_SO, g_SO, F_SO.kp, b_SO, ok_SO F_SO T⟩
  have D_FC : DefOk P w K mg base "first_clash" 3 ["play", "low", "high"] (spFC C) := ⟨f_FC, fd_FC, g_FC, F_FC.kp, b_FC, ok_FC F_FC T D_SO D_CA⟩
  have D_CP : DefOk P w K mg base "clashing_pairs" 4 ["play"] (spCP C) := ⟨f_CP, fd_CP, g_CP, F_CP.kp, b_CP, ok_CP F_CP T D_FC⟩
  have D_LF : DefOk P w K mg base "lower_foes" 5 ["play"] (spLF C) := ⟨f_LF, fd_LF, g_LF, F_LF.kp, b_LF, ok_LF F_LF T D_CP⟩
  have D_Cn : DefOk P w K mg base "can_play" 1 ["play", "player", "role"] (spCn C) := ⟨f_Cn, fd_Cn, g_Cn, F_Cn.kp, b_Cn, ok_Cn F_Cn T⟩
  have D_En : DefOk P w K mg base "engaged" 1 ["play", "casting"] (spEn C) := ⟨f_En, fd_En, g_En, F_En.kp, b_En, ok_En F_En T⟩
  have D_Wa : DefOk P w K mg base "wages_of" 2 ["play", "casting"] (spWa C) := ⟨f_Wa, fd_Wa, g_Wa, F_Wa.kp, b_Wa, ok_Wa F_Wa T D_En⟩
  have D_Fe : DefOk P w K mg base "fees_of" 1 ["play", "casting"] (spFe C) := ⟨f_Fe, fd_Fe, g_Fe, F_Fe.kp, b_Fe, ok_Fe F_Fe T⟩
  have D_Co : DefOk P w K mg base "cost" 3 ["play", "casting"] (spCo C) := ⟨f_Co, fd_Co, g_Co, F_Co.kp, b_Co, ok_Co F_Co D_Wa D_Fe⟩
  have D_Un : DefOk P w K mg base "unable" 2 ["play", "casting"] (spUn C) := ⟨f_Un, fd_Un, g_Un, F_Un.kp, b_Un, ok_Un F_Un T D_Cn⟩
  have D_Me : DefOk P w K mg base "meeting" 5 ["play", "casting"] (spMe C) := ⟨f_Me, fd_Me, g_Me, F_Me.kp, b_Me, ok_Me F_Me D_CP⟩
  have D_Fa : DefOk P w K mg base "fault" 6 ["play", "casting"] (spFa C) := ⟨f_Fa, fd_Fa, g_Fa, F_Fa.kp, b_Fa, ok_Fa F_Fa T D_Un D_Me⟩
  have D_Fi : DefOk P w K mg base "fits" 1 ["foes", "casting", "role", "player"] spFi := ⟨f_Fi, fd_Fi, g_Fi, F_Fi.kp, b_Fi, ok_Fi F_Fi ⟩
  have D_Om : DefOk P w K mg base "one_role_more" 2 ["play", "foes", "castings", "role"] (spOm C) := ⟨f_Om, fd_Om, g_Om, F_Om.kp, b_Om, ok_Om F_Om T D_Cn D_Fi⟩
  have D_Rc : DefOk P w K mg base "right_castings" 6 ["play"] (spRc C) := ⟨f_Rc, fd_Rc, g_Rc, F_Rc.kp, b_Rc, ok_Rc F_Rc T D_LF D_Om⟩
  have D_Cs : DefOk P w K mg base "costs_of" 4 ["play", "castings"] (spCs C) := ⟨f_Cs, fd_Cs, g_Cs, F_Cs.kp, b_Cs, ok_Cs F_Cs D_Co⟩
  have D_Sz : DefOk P w K mg base "sizes_of" 2 ["play", "castings"] (spSz C) := ⟨f_Sz, fd_Sz, g_Sz, F_Sz.kp, b_Sz, ok_Sz F_Sz T D_En⟩
  have D_Lo : DefOk P w K mg base "least_ones" 1 ["castings", "measures"] spLo := ⟨f_Lo, fd_Lo, g_Lo, F_Lo.kp, b_Lo, ok_Lo F_Lo T⟩
  have D_Wo : DefOk P w K mg base "without" 1 ["castings", "player"] spWo := ⟨f_Wo, fd_Wo, g_Wo, F_Wo.kp, b_Wo, ok_Wo F_Wo ⟩
  have D_Si : DefOk P w K mg base "call_size" 1 ["calls", "at"] (spSi K) := ⟨f_Si, fd_Si, g_Si, F_Si.kp, b_Si, ok_Si F_Si TS TR⟩
  have D_Pl : DefOk P w K mg base "call_places" 2 ["calls"] (spPl K) := ⟨f_Pl, fd_Pl, g_Pl, F_Pl.kp, b_Pl, ok_Pl F_Pl T D_Si⟩
  have D_Sg : DefOk P w K mg base "single_at" 1 ["calls", "at"] (spSg K) := ⟨f_Sg, fd_Sg, g_Sg, F_Sg.kp, b_Sg, ok_Sg F_Sg ⟩
  have D_Ra : DefOk P w K mg base "row_at" 1 ["calls", "at"] (spRa K) := ⟨f_Ra, fd_Ra, g_Ra, F_Ra.kp, b_Ra, ok_Ra F_Ra TS⟩
  have D_Ab : DefOk P w K mg base "one_above" 1 ["numbers", "most"] spAb := ⟨f_Ab, fd_Ab, g_Ab, F_Ab.kp, b_Ab, ok_Ab F_Ab ⟩
  have D_Ri : DefOk P w K mg base "rising" 1 ["numbers"] spRi := ⟨f_Ri, fd_Ri, g_Ri, F_Ri.kp, b_Ri, ok_Ri F_Ri T⟩
  have D_Br : DefOk P w K mg base "begins_refusal" 2 ["dress"] spBr := ⟨f_Br, fd_Br, g_Br, F_Br.kp, b_Br, ok_Br F_Br T k_MOST_ROLES k_MOST_MINUTES D_Ab⟩
  have D_Sr : DefOk P w K mg base "scene_refusal" 2 ["play", "minutes", "roles"] (spSr C) := ⟨f_Sr, fd_Sr, g_Sr, F_Sr.kp, b_Sr, ok_Sr F_Sr T k_MOST_MINUTES k_MOST_SCENES D_Ab D_Ri⟩
  have D_Pr : DefOk P w K mg base "player_refusal" 2 ["play", "wage", "fees"] (spPr C) := ⟨f_Pr, fd_Pr, g_Pr, F_Pr.kp, b_Pr, ok_Pr F_Pr T k_MOST_MONEY k_MOST_PLAYERS D_Ab⟩
  have D_Cr : DefOk P w K mg base "check_refusal" 2 ["play", "casting"] (spCr C) := ⟨f_Cr, fd_Cr, g_Cr, F_Cr.kp, b_Cr, ok_Cr F_Cr T D_Ab⟩
  have D_To : DefOk P w K mg base "told" 1 ["number", "rows"] spTo := ⟨f_To, fd_To, g_To, F_To.kp, b_To, ok_To F_To T⟩
  have D_Tc : DefOk P w K mg base "told_choice" 4 ["play", "number", "chosen"] (spTc C) := ⟨f_Tc, fd_Tc, g_Tc, F_Tc.kp, b_Tc, ok_Tc F_Tc T D_Co D_To D_En⟩
  have D_Bg : DefOk P w K mg base "begins" 3 ["play", "dress"] (spBg C) := ⟨f_Bg, fd_Bg, g_Bg, F_Bg.kp, b_Bg, ok_Bg F_Bg T D_Br G_Be b_Be m_Be⟩
  have D_Sc : DefOk P w K mg base "scene" 3 ["play", "minutes", "roles"] (spSc C) := ⟨f_Sc, fd_Sc, g_Sc, F_Sc.kp, b_Sc, ok_Sc F_Sc T D_Sr G_Ps b_Ps m_Ps⟩
  have D_Py : DefOk P w K mg base "player" 3 ["play", "wage", "fees"] (spPy C) := ⟨f_Py, fd_Py, g_Py, F_Py.kp, b_Py, ok_Py F_Py T D_Pr G_Pp b_Pp m_Pp⟩
  have D_Cl : DefOk P w K mg base "clashes" 5 ["play"] (spCl C) := ⟨f_Cl, fd_Cl, g_Cl, F_Cl.kp, b_Cl, ok_Cl F_Cl T D_CP D_To⟩
  have D_Ch : DefOk P w K mg base "cheapest" 7 ["play"] (spCh C) := ⟨f_Ch, fd_Ch, g_Ch, F_Ch.kp, b_Ch, ok_Ch F_Ch T D_Rc D_Cs D_Tc D_Lo⟩
  have D_Fw : DefOk P w K mg base "fewest" 7 ["play"] (spFw C) := ⟨f_Fw, fd_Fw, g_Fw, F_Fw.kp, b_Fw, ok_Fw F_Fw T D_Rc D_Sz D_Tc D_Lo⟩
  have D_Ck : DefOk P w K mg base "check" 7 ["play", "casting"] (spCk C) := ⟨f_Ck, fd_Ck, g_Ck, F_Ck.kp, b_Ck, ok_Ck F_Ck T D_Cr D_Fa D_To D_Co D_En⟩
  have D_Il : DefOk P w K mg base "ill" 7 ["play", "away"] (spIl C) := ⟨f_Il, fd_Il, g_Il, F_Il.kp, b_Il, ok_Il F_Il T D_Rc D_Wo D_Cs D_To D_Lo⟩
  have D_An : DefOk P w K mg base "call_answer" 8 ["play", "calls", "at"] (spAn K C) := ⟨f_An, fd_An, g_An, F_An.kp, b_An, ok_An F_An ⟨D_Bg, D_Sc, D_Py, D_Cl, D_Ch, D_Fw, D_Ck, D_Il, D_Ra, D_Sg⟩ ⟨k_BEGINS, k_SCENE, k_PLAYER, k_CLASHES, k_CHEAPEST, k_FEWEST, k_CHECK⟩⟩
  exact ok_Aw F_Aw T ⟨mk, m_In.at_, m_In.fn, kc⟩ G_In b_In D_Pl D_An
end RD
open PySem PySem.W PyProof.Rows
set_option maxRecDepth 100000 in
set_option maxHeartbeats 0 in
theorem PySem.Challenge.cw_rolesdoubled_s01_answers_holds : PySem.Challenge.rw_rolesdoubled_s01_answers.Holds := by
  w_on; k_headS; (case hw => exact ⟨[.list [.int 3]], by decide +kernel, by decide +kernel⟩)
  k_fillS
  refine L2.walk_specK (r := PySem.Challenge.rw_rolesdoubled_s01_answers) (k := 9) (CX := L2.CX0) (ps := ["calls"]) (sp := RD.spAw) (by decide +kernel) rfl rfl ⟨rfl, by decide, by decide⟩ (fun w h Y => PySem.W.kIn_of Y) ?F ?S (fun _ _ _ _ z => z)
  case F =>
    intro w mg fa h Y KX G hmg
    refine' RD.all_mk KX G hmg ?aC ?pg ?hd ?po ?sa ?mk ?kc ?nD ?nL ?nO ?nW ?nF ?z_len ?z_range ?z_list ?z_min ?i_BEGINS ?i_SCENE ?i_PLAYER ?i_CLASHES ?i_CHEAPEST ?i_FEWEST ?i_CHECK ?i_MOST_ROLES ?i_MOST_MINUTES ?i_MOST_SCENES ?i_MOST_PLAYERS ?i_MOST_MONEY ?tupS ?tupR ?d_In ?d_Be ?d_Ps ?d_Pp ?d_MB ?d_CA ?d_SO ?d_FC ?d_CP ?d_LF ?d_Cn ?d_En ?d_Wa ?d_Fe ?d_Co ?d_Un ?d_Me ?d_Fa ?d_Fi ?d_Om ?d_Rc ?d_Cs ?d_Sz ?d_Lo ?d_Wo ?d_Si ?d_Pl ?d_Sg ?d_Ra ?d_Ab ?d_Ri ?d_Br ?d_Sr ?d_Pr ?d_Cr ?d_To ?d_Tc ?d_Bg ?d_Sc ?d_Py ?d_Cl ?d_Ch ?d_Fw ?d_Ck ?d_Il ?d_An ?d_Aw
    (case aC => k_is)
    (case pg => k_is)
    (case hd => k_is)
    (case po => k_is)
    (case sa => k_is)
    (case mk => k_is)
    (case kc => k_is)
    (case nD => k_is)
    (case nL => k_is)
    (case nO => k_is)
    (case nW => k_is)
    (case nF => k_is)
    (case z_len => k_is)
    (case z_range => k_is)
    (case z_list => k_is)
    (case z_min => k_is)
    (case i_BEGINS => k_is)
    (case i_SCENE => k_is)
    (case i_PLAYER => k_is)
    (case i_CLASHES => k_is)
    (case i_CHEAPEST => k_is)
    (case i_FEWEST => k_is)
    (case i_CHECK => k_is)
    (case i_MOST_ROLES => k_is)
    (case i_MOST_MINUTES => k_is)
    (case i_MOST_SCENES => k_is)
    (case i_MOST_PLAYERS => k_is)
    (case i_MOST_MONEY => k_is)
    (case tupS => refine' RD.tupIn_mk ?a ?l ?z ?v; (case a => k_is); (case l => k_is); (case z => decide +kernel); (case v => exact .cons ⟨_, rfl⟩ (.cons ⟨_, rfl⟩ (.cons ⟨_, rfl⟩ (.cons ⟨_, rfl⟩ (.cons ⟨_, rfl⟩ (.cons ⟨_, rfl⟩ (.cons ⟨_, rfl⟩ (.cons ⟨_, rfl⟩ (.nil))))))))))
    (case tupR => refine' RD.tupIn_mk ?a ?l ?z ?v; (case a => k_is); (case l => k_is); (case z => decide +kernel); (case v => exact .cons ⟨_, rfl⟩ (.cons ⟨_, rfl⟩ (.cons ⟨_, rfl⟩ (.cons ⟨_, rfl⟩ (.cons ⟨_, rfl⟩ (.cons ⟨_, rfl⟩ (.cons ⟨_, rfl⟩ (.cons ⟨_, rfl⟩ (.nil))))))))))
    (case d_In => refine' RD.methIn_mk ?a ?i ?l ?c ?k; (case a => k_is); (case i => k_is); (case l => k_is); (case c => k_is); (case k => k_is))
    (case d_Be => refine' RD.methIn_mk ?a ?i ?l ?c ?k; (case a => k_is); (case i => k_is); (case l => k_is); (case c => k_is); (case k => k_is))
    (case d_Ps => refine' RD.methIn_mk ?a ?i ?l ?c ?k; (case a => k_is); (case i => k_is); (case l => k_is); (case c => k_is); (case k => k_is))
    (case d_Pp => refine' RD.methIn_mk ?a ?i ?l ?c ?k; (case a => k_is); (case i => k_is); (case l => k_is); (case c => k_is); (case k => k_is))
    (case d_MB => refine' RD.defIn_mk ?a ?l ?c ?k; (case a => k_is); (case l => k_is); (case c => k_is); (case k => k_is))
    (case d_CA => refine' RD.defIn_mk ?a ?l ?c ?k; (case a => k_is); (case l => k_is); (case c => k_is); (case k => k_is))
    (case d_SO => refine' RD.defIn_mk ?a ?l ?c ?k; (case a => k_is); (case l => k_is); (case c => k_is); (case k => k_is))
    (case d_FC => refine' RD.defIn_mk ?a ?l ?c ?k; (case a => k_is); (case l => k_is); (case c => k_is); (case k => k_is))
    (case d_CP => refine' RD.defIn_mk ?a ?l ?c ?k; (case a => k_is); (case l => k_is); (case c => k_is); (case k => k_is))
    (case d_LF => refine' RD.defIn_mk ?a ?l ?c ?k; (case a => k_is); (case l => k_is); (case c => k_is); (case k => k_is))
    (case d_Cn => refine' RD.defIn_mk ?a ?l ?c ?k; (case a => k_is); (case l => k_is); (case c => k_is); (case k => k_is))
    (case d_En => refine' RD.defIn_mk ?a ?l ?c ?k; (case a => k_is); (case l => k_is); (case c => k_is); (case k => k_is))
    (case d_Wa => refine' RD.defIn_mk ?a ?l ?c ?k; (case a => k_is); (case l => k_is); (case c => k_is); (case k => k_is))
    (case d_Fe => refine' RD.defIn_mk ?a ?l ?c ?k; (case a => k_is); (case l => k_is); (case c => k_is); (case k => k_is))
    (case d_Co => refine' RD.defIn_mk ?a ?l ?c ?k; (case a => k_is); (case l => k_is); (case c => k_is); (case k => k_is))
    (case d_Un => refine' RD.defIn_mk ?a ?l ?c ?k; (case a => k_is); (case l => k_is); (case c => k_is); (case k => k_is))
    (case d_Me => refine' RD.defIn_mk ?a ?l ?c ?k; (case a => k_is); (case l => k_is); (case c => k_is); (case k => k_is))
    (case d_Fa => refine' RD.defIn_mk ?a ?l ?c ?k; (case a => k_is); (case l => k_is); (case c => k_is); (case k => k_is))
    (case d_Fi => refine' RD.defIn_mk ?a ?l ?c ?k; (case a => k_is); (case l => k_is); (case c => k_is); (case k => k_is))
    (case d_Om => refine' RD.defIn_mk ?a ?l ?c ?k; (case a => k_is); (case l => k_is); (case c => k_is); (case k => k_is))
    (case d_Rc => refine' RD.defIn_mk ?a ?l ?c ?k; (case a => k_is); (case l => k_is); (case c => k_is); (case k => k_is))
    (case d_Cs => refine' RD.defIn_mk ?a ?l ?c ?k; (case a => k_is); (case l => k_is); (case c => k_is); (case k => k_is))
    (case d_Sz => refine' RD.defIn_mk ?a ?l ?c ?k; (case a => k_is); (case l => k_is); (case c => k_is); (case k => k_is))
    (case d_Lo => refine' RD.defIn_mk ?a ?l ?c ?k; (case a => k_is); (case l => k_is); (case c => k_is); (case k => k_is))
    (case d_Wo => refine' RD.defIn_mk ?a ?l ?c ?k; (case a => k_is); (case l => k_is); (case c => k_is); (case k => k_is))
    (case d_Si => refine' RD.defIn_mk ?a ?l ?c ?k; (case a => k_is); (case l => k_is); (case c => k_is); (case k => k_is))
    (case d_Pl => refine' RD.defIn_mk ?a ?l ?c ?k; (case a => k_is); (case l => k_is); (case c => k_is); (case k => k_is))
    (case d_Sg => refine' RD.defIn_mk ?a ?l ?c ?k; (case a => k_is); (case l => k_is); (case c => k_is); (case k => k_is))
    (case d_Ra => refine' RD.defIn_mk ?a ?l ?c ?k; (case a => k_is); (case l => k_is); (case c => k_is); (case k => k_is))
    (case d_Ab => refine' RD.defIn_mk ?a ?l ?c ?k; (case a => k_is); (case l => k_is); (case c => k_is); (case k => k_is))
    (case d_Ri => refine' RD.defIn_mk ?a ?l ?c ?k; (case a => k_is); (case l => k_is); (case c => k_is); (case k => k_is))
    (case d_Br => refine' RD.defIn_mk ?a ?l ?c ?k; (case a => k_is); (case l => k_is); (case c => k_is); (case k => k_is))
    (case d_Sr => refine' RD.defIn_mk ?a ?l ?c ?k; (case a => k_is); (case l => k_is); (case c => k_is); (case k => k_is))
    (case d_Pr => refine' RD.defIn_mk ?a ?l ?c ?k; (case a => k_is); (case l => k_is); (case c => k_is); (case k => k_is))
    (case d_Cr => refine' RD.defIn_mk ?a ?l ?c ?k; (case a => k_is); (case l => k_is); (case c => k_is); (case k => k_is))
    (case d_To => refine' RD.defIn_mk ?a ?l ?c ?k; (case a => k_is); (case l => k_is); (case c => k_is); (case k => k_is))
    (case d_Tc => refine' RD.defIn_mk ?a ?l ?c ?k; (case a => k_is); (case l => k_is); (case c => k_is); (case k => k_is))
    (case d_Bg => refine' RD.defIn_mk ?a ?l ?c ?k; (case a => k_is); (case l => k_is); (case c => k_is); (case k => k_is))
    (case d_Sc => refine' RD.defIn_mk ?a ?l ?c ?k; (case a => k_is); (case l => k_is); (case c => k_is); (case k => k_is))
    (case d_Py => refine' RD.defIn_mk ?a ?l ?c ?k; (case a => k_is); (case l => k_is); (case c => k_is); (case k => k_is))
    (case d_Cl => refine' RD.defIn_mk ?a ?l ?c ?k; (case a => k_is); (case l => k_is); (case c => k_is); (case k => k_is))
    (case d_Ch => refine' RD.defIn_mk ?a ?l ?c ?k; (case a => k_is); (case l => k_is); (case c => k_is); (case k => k_is))
    (case d_Fw => refine' RD.defIn_mk ?a ?l ?c ?k; (case a => k_is); (case l => k_is); (case c => k_is); (case k => k_is))
    (case d_Ck => refine' RD.defIn_mk ?a ?l ?c ?k; (case a => k_is); (case l => k_is); (case c => k_is); (case k => k_is))
    (case d_Il => refine' RD.defIn_mk ?a ?l ?c ?k; (case a => k_is); (case l => k_is); (case c => k_is); (case k => k_is))
    (case d_An => refine' RD.defIn_mk ?a ?l ?c ?k; (case a => k_is); (case l => k_is); (case c => k_is); (case k => k_is))
    (case d_Aw => refine' RD.defIn_mk ?a ?l ?c ?k; (case a => k_is); (case l => k_is); (case c => k_is); (case k => k_is))
  case S =>
    intro K H xs a hO hwi hask hx
    cases hx with
    | cons h1 h2 =>
      cases h2
      cases h1 with
      | lst hs ha =>
        have e := L2.ints_dw a.1 _ ha
        subst e
        obtain ⟨cs, e1, e2, e3, e4, e5⟩ := RD.asked_is (l := a.1) hask
        refine ⟨_, cs, rfl, ?_, e2, e3, e5, fun H' p hp => ?_⟩
        · rw [← e1]
          exact hs
        · have z : L2.Dw K H' (.ref p) (WData.list ((RD.told (RD.runs Uw02.init cs)).map WData.int)) := .lst (L2.SqL.of hp) (L2.dw_ints _)
          rw [← e4] at z
          exact z
#print axioms PySem.Challenge.cw_rolesdoubled_s01_answers_holds
