import PyProof.Rows.All
import Wide.All
import OpenK.AllK
import Wide.FinOn
import Open.SpecLaws
import KE.OsGo
import HandS.ForSpec
import HandS.ExcInit
import HandS.ExcField
import HandS.HeadHook1
import HandS.Head0
import HandS.Head1
import HandS.Head2
import HandS.Head3
import HandS.Head4
import HandS.ForMost
import HandS.Wide
import HandS.Walk
import HandS.SortRule
import HandS.SortInts
import HandS.Deep
import HandS.TupLe
import HandS.Zip
import KE.SortKeyHeap
import KE.DatumOrd
import PyProof.Rows.RowBridgeK
import HandS.SortKw
import KE.KMinKey
import PyProof.ListCopy
import HandS.TryMany
import PySem.Challenge.RW_boxforest_s01_answers
set_option Elab.async false
set_option linter.all false
set_option maxRecDepth 100000
set_option maxHeartbeats 4000000
namespace BF
open Kvg6

/-! ### A. heights: balanced trees, structural equations -/
/-- all leaves n levels below -/
def Bal : Nat → Tree → Prop
  | 0, .leaf _ => True
  | n + 1, .node ch => ∀ c ∈ ch, Bal n c
  | _, _ => False

theorem Bal.leaf {t : Tree} (h : Bal 0 t) : ∃ items, t = .leaf items := by
  cases t with
  | leaf items => exact ⟨items, rfl⟩
  | node ch => exact h.elim
theorem Bal.node {n : Nat} {t : Tree} (h : Bal (n + 1) t) : ∃ ch, t = .node ch ∧ ∀ c ∈ ch, Bal n c := by
  cases t with
  | leaf items => exact h.elim
  | node ch => exact ⟨ch, rfl, h⟩

theorem box_fuel : ∀ (k : Nat) (t : Tree), Bal k t → ∀ m n, k ≤ m → k ≤ n → boxOfTree m t = boxOfTree n t
  | 0, t, h, m, n, _, _ => by
    obtain ⟨items, rfl⟩ := h.leaf
    cases m <;> cases n <;> rfl
  | k + 1, t, h, m, n, hm, hn => by
    obtain ⟨ch, rfl, hc⟩ := h.node
    cases m with
    | zero => omega
    | succ m =>
      cases n with
      | zero => omega
      | succ n =>
        simp only [boxOfTree]
        congr 1
        exact List.map_congr_left fun c hcm => box_fuel k c (hc c hcm) m n (by omega) (by omega)
theorem items_fuel : ∀ (k : Nat) (t : Tree), Bal k t → ∀ m n, k ≤ m → k ≤ n → itemsOfTree m t = itemsOfTree n t
  | 0, t, h, m, n, _, _ => by
    obtain ⟨items, rfl⟩ := h.leaf
    cases m <;> cases n <;> rfl
  | k + 1, t, h, m, n, hm, hn => by
    obtain ⟨ch, rfl, hc⟩ := h.node
    cases m with
    | zero => omega
    | succ m =>
      cases n with
      | zero => omega
      | succ n =>
        simp only [itemsOfTree, List.flatMap]
        congr 1
        exact List.map_congr_left fun c hcm => items_fuel k c (hc c hcm) m n (by omega) (by omega)
theorem height_fuel : ∀ (k : Nat) (t : Tree), Bal k t → ∀ m n, k ≤ m → k ≤ n → heightOfTree m t = heightOfTree n t
  | 0, t, h, m, n, _, _ => by
    obtain ⟨items, rfl⟩ := h.leaf
    cases m <;> cases n <;> rfl
  | k + 1, t, h, m, n, hm, hn => by
    obtain ⟨ch, rfl, hc⟩ := h.node
    cases m with
    | zero => omega
    | succ m =>
      cases n with
      | zero => omega
      | succ n =>
        simp only [heightOfTree]
        congr 2
        exact List.map_congr_left fun c hcm => height_fuel k c (hc c hcm) m n (by omega) (by omega)
theorem nodes_fuel : ∀ (k : Nat) (t : Tree), Bal k t → ∀ m n, k ≤ m → k ≤ n → nodesOfTree m t = nodesOfTree n t
  | 0, t, h, m, n, _, _ => by
    obtain ⟨items, rfl⟩ := h.leaf
    cases m <;> cases n <;> rfl
  | k + 1, t, h, m, n, hm, hn => by
    obtain ⟨ch, rfl, hc⟩ := h.node
    cases m with
    | zero => omega
    | succ m =>
      cases n with
      | zero => omega
      | succ n =>
        simp only [nodesOfTree, List.flatMap]
        congr 2
        exact List.map_congr_left fun c hcm => nodes_fuel k c (hc c hcm) m n (by omega) (by omega)
theorem bal_lt {k : Nat} (h : k ≤ 15) : k ≤ fuel ∧ k + 1 ≤ fuel := by unfold fuel; omega

section
variable {k : Nat} {ch : List Tree} (h : ∀ c ∈ ch, Bal k c) (hk : k ≤ 14)
include h hk
theorem box_node : (Tree.node ch).box = joinAll (ch.map Tree.box) := by
  show boxOfTree (15 + 1) _ = _
  simp only [boxOfTree]
  congr 1
  exact List.map_congr_left fun c hc => box_fuel k c (h c hc) 15 16 (by omega) (by omega)
theorem items_node : (Tree.node ch).items = ch.flatMap Tree.items := by
  show itemsOfTree (15 + 1) _ = _
  simp only [itemsOfTree, List.flatMap]
  congr 1
  exact List.map_congr_left fun c hc => items_fuel k c (h c hc) 15 16 (by omega) (by omega)
theorem nodes_node : (Tree.node ch).nodes = .node ch :: ch.flatMap Tree.nodes := by
  show nodesOfTree (15 + 1) _ = _
  simp only [nodesOfTree, List.flatMap]
  congr 2
  exact List.map_congr_left fun c hc => nodes_fuel k c (h c hc) 15 16 (by omega) (by omega)
end
theorem box_leaf (items : List Item) : (Tree.leaf items).box = joinAll (items.map Item.box) := rfl
theorem items_leaf (items : List Item) : (Tree.leaf items).items = items := rfl
theorem nodes_leaf (items : List Item) : (Tree.leaf items).nodes = [.leaf items] := rfl
/-- what a node has below a minimum: no empty inner node -/
def NE : Nat → Tree → Prop
  | 0, .leaf _ => True
  | n + 1, .node ch => ch ≠ [] ∧ ∀ c ∈ ch, NE n c
  | _, _ => False
theorem heightOf_NE : ∀ (k : Nat) (t : Tree), NE k t → ∀ m, k ≤ m → heightOfTree m t = k + 1
  | 0, t, h, m, _ => by
    cases t with
    | leaf items => cases m <;> rfl
    | node ch => exact h.elim
  | k + 1, t, h, m, hm => by
    cases t with
    | leaf items => exact h.elim
    | node ch =>
      obtain ⟨h1, h2⟩ := h
      cases m with
      | zero => omega
      | succ m =>
        cases ch with
        | nil => exact absurd rfl h1
        | cons c r =>
          simp only [heightOfTree, List.map_cons, List.headD_cons]
          rw [heightOf_NE k c (h2 c List.mem_cons_self) m (by omega)]
          omega

/-! ### trees as the program keeps them -/
/-- a node that is no root: 2 to 4 entries -/
def Full : Nat → Tree → Prop
  | 0, .leaf items => 2 ≤ items.length ∧ items.length ≤ 4
  | n + 1, .node ch => (2 ≤ ch.length ∧ ch.length ≤ 4) ∧ ∀ c ∈ ch, Full n c
  | _, _ => False
/-- a root -/
def Root : Nat → Tree → Prop
  | 0, .leaf items => items.length ≤ 4
  | n + 1, .node ch => (2 ≤ ch.length ∧ ch.length ≤ 4) ∧ ∀ c ∈ ch, Full n c
  | _, _ => False
theorem Full.bal : ∀ {n : Nat} {t : Tree}, Full n t → Bal n t
  | 0, .leaf _, _ => trivial
  | 0, .node _, h => h.elim
  | n + 1, .leaf _, h => h.elim
  | n + 1, .node ch, h => fun c hc => (h.2 c hc).bal
theorem Root.bal : ∀ {n : Nat} {t : Tree}, Root n t → Bal n t
  | 0, .leaf _, _ => trivial
  | 0, .node _, h => h.elim
  | n + 1, .leaf _, h => h.elim
  | n + 1, .node ch, h => fun c hc => (h.2 c hc).bal
theorem Full.root : ∀ {n : Nat} {t : Tree}, Full n t → Root n t
  | 0, .leaf _, h => h.2
  | 0, .node _, h => h.elim
  | n + 1, .leaf _, h => h.elim
  | n + 1, .node ch, h => h
theorem Full.ne : ∀ {n : Nat} {t : Tree}, Full n t → NE n t
  | 0, .leaf _, _ => trivial
  | 0, .node _, h => h.elim
  | n + 1, .leaf _, h => h.elim
  | n + 1, .node ch, h => ⟨fun e => by have h1 := h.1.1; rw [e] at h1; simp at h1, fun c hc => (h.2 c hc).ne⟩
theorem Root.ne : ∀ {n : Nat} {t : Tree}, Root n t → NE n t
  | 0, .leaf _, _ => trivial
  | 0, .node _, h => h.elim
  | n + 1, .leaf _, h => h.elim
  | n + 1, .node ch, h => ⟨fun e => by have h1 := h.1.1; rw [e] at h1; simp at h1, fun c hc => (h.2 c hc).ne⟩
theorem flat_len_ge {α β : Type} (f : α → List β) (m : Nat) : ∀ (l : List α), (∀ x ∈ l, m ≤ (f x).length) → l.length * m ≤ (l.flatMap f).length
  | [], _ => by simp
  | a :: l, h => by
    have ih := flat_len_ge f m l fun x hx => h x (List.mem_cons_of_mem _ hx)
    have h1 := h a List.mem_cons_self
    rw [List.flatMap_cons, List.length_append, List.length_cons, Nat.add_mul, Nat.one_mul]
    omega
theorem itemsOf_full : ∀ {n : Nat} {t : Tree}, Full n t → 2 ^ (n + 1) ≤ (itemsOfTree n t).length
  | 0, .leaf items, h => h.1
  | 0, .node _, h => h.elim
  | n + 1, .leaf _, h => h.elim
  | n + 1, .node ch, h => by
    have h1 := flat_len_ge (itemsOfTree n) (2 ^ (n + 1)) ch fun c hc => itemsOf_full (h.2 c hc)
    show _ ≤ (ch.flatMap (itemsOfTree n)).length
    have h2 : 2 * 2 ^ (n + 1) ≤ ch.length * 2 ^ (n + 1) := Nat.mul_le_mul_right _ h.1.1
    have e : 2 ^ (n + 1 + 1) = 2 * 2 ^ (n + 1) := by rw [Nat.pow_succ]; omega
    omega
theorem itemsOf_root : ∀ {n : Nat} {t : Tree}, Root n t → 1 ≤ n → 2 ^ (n + 1) ≤ (itemsOfTree n t).length
  | 0, _, _, h0 => absurd h0 (by omega)
  | n + 1, .leaf _, h, _ => h.elim
  | n + 1, .node ch, h, _ => itemsOf_full (n := n + 1) (t := .node ch) h
/-- few items: a low tree (the items reckoned with the tree's own height) -/
theorem root_low {n : Nat} {t : Tree} (h : Root n t) (hs : (itemsOfTree n t).length ≤ 48) : n ≤ 4 := by
  cases n with
  | zero => omega
  | succ n =>
    have h1 := itemsOf_root h (by omega)
    have h2 : 2 ^ (n + 1 + 1) ≤ 48 := Nat.le_trans h1 hs
    have h3 : ¬ 5 ≤ n + 1 := fun h5 => by
      have h4 : 2 ^ 6 ≤ 2 ^ (n + 1 + 1) := Nat.pow_le_pow_right (by omega) (by omega)
      omega
    omega
theorem items_of {n : Nat} {t : Tree} (h : Bal n t) (hn : n ≤ 16) : t.items = itemsOfTree n t := items_fuel n t h 16 n hn (Nat.le_refl _)
theorem height_of {n : Nat} {t : Tree} (h : NE n t) (hn : n ≤ 16) : t.height = n + 1 := heightOf_NE n t h 16 hn
end BF
namespace BF
open Kvg6
/-! ### B. the first index with the least key -/
abbrev klt : List Int → List Int → Bool := firstLeast.List.lt
theorem klt_cons {a b : Int} {l m : List Int} : klt (a :: l) (b :: m) = (decide (a < b) || (a == b && klt l m)) := by
  show firstLeast.List.lt _ _ = _
  rw [firstLeast.List.lt]
theorem klt_nil {l : List Int} : klt l [] = false := by
  cases l <;> (show firstLeast.List.lt _ _ = _; rw [firstLeast.List.lt])
theorem klt_nil_cons {b : Int} {m : List Int} : klt [] (b :: m) = true := by
  show firstLeast.List.lt _ _ = _
  rw [firstLeast.List.lt]
theorem klt_irrefl : ∀ l : List Int, klt l l = false
  | [] => klt_nil
  | a :: l => by rw [klt_cons, klt_irrefl l]; simp
theorem klt_trans : ∀ {l m n : List Int}, klt l m = true → klt m n = true → klt l n = true
  | l, [], n, h, _ => by rw [klt_nil] at h; cases h
  | l, b :: m, [], _, h => by rw [klt_nil] at h; cases h
  | [], b :: m, c :: n, _, _ => klt_nil_cons
  | a :: l, b :: m, c :: n, h1, h2 => by
    rw [klt_cons] at *
    simp only [Bool.or_eq_true, decide_eq_true_eq, Bool.and_eq_true, beq_iff_eq] at *
    rcases h1 with h1 | ⟨h1, h1'⟩ <;> rcases h2 with h2 | ⟨h2, h2'⟩
    · left; omega
    · left; omega
    · left; omega
    · right; exact ⟨by omega, klt_trans h1' h2'⟩
theorem klt_total : ∀ (l m : List Int), klt l m = true ∨ l = m ∨ klt m l = true
  | [], [] => .inr (.inl rfl)
  | [], _ :: _ => .inl klt_nil_cons
  | _ :: _, [] => .inr (.inr klt_nil_cons)
  | a :: l, b :: m => by
    rw [klt_cons, klt_cons]
    simp only [Bool.or_eq_true, decide_eq_true_eq, Bool.and_eq_true, beq_iff_eq, List.cons.injEq]
    rcases klt_total l m with h | h | h
    · rcases Int.lt_trichotomy a b with h1 | h1 | h1
      · exact .inl (.inl h1)
      · exact .inl (.inr ⟨h1, h⟩)
      · exact .inr (.inr (.inl h1))
    · rcases Int.lt_trichotomy a b with h1 | h1 | h1
      · exact .inl (.inl h1)
      · exact .inr (.inl ⟨h1, h⟩)
      · exact .inr (.inr (.inl h1))
    · rcases Int.lt_trichotomy a b with h1 | h1 | h1
      · exact .inl (.inl h1)
      · exact .inr (.inr (.inr ⟨h1.symm, h⟩))
      · exact .inr (.inr (.inl h1))
theorem klt_asymm {l m : List Int} (h : klt l m = true) : klt m l = false := by
  cases h2 : klt m l with
  | false => rfl
  | true => have := klt_trans h h2; rw [klt_irrefl] at this; cases this
theorem klt_neg {l m n : List Int} (h1 : klt l m = true) (h2 : klt n m = false) : klt l n = true := by
  rcases klt_total l n with h | h | h
  · exact h
  · subst h; rw [h1] at h2; cases h2
  · rw [klt_trans h h1] at h2; cases h2

/-- k is the first of n places whose key is the least -/
structure First (f : Nat → List Int) (n k : Nat) : Prop where
  lt : k < n
  before : ∀ j, j < k → klt (f k) (f j) = true
  least : ∀ j, j < n → klt (f j) (f k) = false
theorem First.one (f : Nat → List Int) : First f 1 0 := ⟨by omega, fun j h => by omega, fun j h => by
  have : j = 0 := by omega
  subst this
  exact klt_irrefl _⟩
theorem First.yes {f : Nat → List Int} {n k : Nat} (h : First f n k) (c : klt (f n) (f k) = true) : First f (n + 1) n :=
  ⟨by omega, fun j hj => klt_neg c (h.least j hj), fun j hj => by
    by_cases e : j = n
    · subst e; exact klt_irrefl _
    · exact klt_asymm (klt_neg c (h.least j (by omega)))⟩
theorem First.no {f : Nat → List Int} {n k : Nat} (h : First f n k) (c : klt (f n) (f k) = false) : First f (n + 1) k :=
  ⟨by have := h.lt; omega, h.before, fun j hj => by
    by_cases e : j = n
    · subst e; exact c
    · exact h.least j (by omega)⟩
theorem First.step {f : Nat → List Int} {n k : Nat} (h : First f n k) : First f (n + 1) (if klt (f n) (f k) then n else k) := by
  cases c : klt (f n) (f k) with
  | true => exact h.yes c
  | false => exact h.no c
theorem First.uniq {f : Nat → List Int} {n k l : Nat} (h : First f n k) (g : First f n l) : k = l := by
  rcases Nat.lt_trichotomy k l with c | c | c
  · have h1 := g.before k c
    rw [h.least l g.lt] at h1; cases h1
  · exact c
  · have h1 := h.before l c
    rw [g.least k h.lt] at h1; cases h1
theorem First.congr {f g : Nat → List Int} {n k : Nat} (h : First f n k) (e : ∀ j, j < n → f j = g j) : First g n k :=
  ⟨h.lt, fun j hj => by rw [← e k h.lt, ← e j (by have := h.lt; omega)]; exact h.before j hj, fun j hj => by rw [← e k h.lt, ← e j hj]; exact h.least j hj⟩
theorem firstLeast_first (keys : List (List Int)) (h : 0 < keys.length) : First (fun i => keys.getD i []) keys.length (firstLeast keys) := by
  have key : ∀ m, 0 < m → First (fun i => keys.getD i []) m ((List.range m).foldl (fun best i => if klt (keys.getD i []) (keys.getD best []) then i else best) 0) := by
    intro m hm
    induction m with
    | zero => omega
    | succ m ih =>
      by_cases e : m = 0
      · subst e
        have z : (List.range 1).foldl (fun best i => if klt (keys.getD i []) (keys.getD best []) then i else best) 0 = 0 := by
          show (if klt (keys.getD 0 []) (keys.getD 0 []) then 0 else 0) = 0
          split <;> rfl
        rw [z]
        exact First.one _
      · rw [List.range_succ, List.foldl_append]
        exact (ih (by omega)).step
  exact key keys.length h
theorem firstLeast_eq {keys : List (List Int)} {k : Nat} (h : First (fun i => keys.getD i []) keys.length k) : firstLeast keys = k :=
  (firstLeast_first keys (by have := h.lt; omega)).uniq h
/-- over a list of keyed things: the first of the least -/
theorem firstLeast_map {α : Type} {l : List α} {f : α → List Int} {d : α} {k : Nat} (h : First (fun i => f (l.getD i d)) l.length k) : firstLeast (l.map f) = k := by
  refine firstLeast_eq ?_
  rw [List.length_map]
  refine h.congr fun j hj => ?_
  simp [List.getD, List.getElem?_map, List.getElem?_eq_getElem hj]
end BF
namespace BF
open Kvg6
/-! ### C. splits -/
def B0 : Box := ⟨0, 0, 0, 0⟩
abbrev bx (boxes : List Box) (i : Nat) : Box := boxes.getD i ⟨0, 0, 0, 0⟩
/-- what two entries waste -/
def wst (a b : Box) : Int := (join a b).area - a.area - b.area
abbrev wq (boxes : List Box) (q : Nat × Nat) : Int := wst (bx boxes q.1) (bx boxes q.2)
/-- the pairs of the program's two loops -/
def rowP (n a k : Nat) : List (Nat × Nat) := (List.range k).map fun j => (a, a + 1 + j)
def rowsP (n i : Nat) : List (Nat × Nat) := (List.range i).flatMap fun a => rowP n a (n - (a + 1))
def bestP (boxes : List Box) (l : List (Nat × Nat)) : Nat × Nat := l.foldl (fun b q => if wq boxes b < wq boxes q then q else b) (0, 1)
theorem rowsP_succ (n i : Nat) : rowsP n (i + 1) = rowsP n i ++ rowP n i (n - (i + 1)) := by
  unfold rowsP
  rw [List.range_succ, List.flatMap_append]
  simp
theorem rowP_succ (n a k : Nat) : rowP n a (k + 1) = rowP n a k ++ [(a, a + 1 + k)] := by
  unfold rowP
  rw [List.range_succ, List.map_append]
  rfl
theorem bestP_snoc (boxes : List Box) (l : List (Nat × Nat)) (q : Nat × Nat) : bestP boxes (l ++ [q]) = if wq boxes (bestP boxes l) < wq boxes q then q else bestP boxes l := by
  unfold bestP
  rw [List.foldl_append]
  rfl
theorem klt_one (a b : Int) : klt [a] [b] = decide (a < b) := by
  rw [klt_cons, klt_nil]
  simp
theorem best_first (boxes : List Box) (p0 : Nat × Nat) (r : List (Nat × Nat)) (h0 : p0 = (0, 1)) : ∀ m, 0 < m → m ≤ (p0 :: r).length →
    ∃ k, First (fun i => [-(wq boxes ((p0 :: r).getD i (0, 0)))]) m k ∧ bestP boxes ((p0 :: r).take m) = (p0 :: r).getD k (0, 0)
  | 0, h, _ => absurd h (by omega)
  | 1, _, _ => ⟨0, First.one _, by
    show (if wq boxes (0, 1) < wq boxes p0 then p0 else (0, 1)) = p0
    rw [h0]; split <;> rfl⟩
  | m + 2, _, hm => by
    obtain ⟨k, h1, h2⟩ := best_first boxes p0 r h0 (m + 1) (by omega) (by omega)
    have hlt : m + 1 < (p0 :: r).length := by omega
    have e : (p0 :: r).take (m + 2) = (p0 :: r).take (m + 1) ++ [(p0 :: r).getD (m + 1) (0, 0)] := by
      rw [List.take_succ_eq_append_getElem hlt]
      simp [List.getD, List.getElem?_eq_getElem hlt]
    rw [e, bestP_snoc, h2]
    by_cases c : wq boxes ((p0 :: r).getD k (0, 0)) < wq boxes ((p0 :: r).getD (m + 1) (0, 0))
    · rw [if_pos c]
      exact ⟨m + 1, h1.yes (by simp only [klt_one]; exact decide_eq_true (by omega)), rfl⟩
    · rw [if_neg c]
      exact ⟨k, h1.no (by simp only [klt_one]; exact decide_eq_false (by omega)), rfl⟩
theorem pairs5 : ((List.range 5).flatMap fun i => ((List.range 5).filter fun j => decide (i < j)).map fun j => (i, j)) = rowsP 5 5 := by decide
theorem rows5 : rowsP 5 5 = (0, 1) :: (rowsP 5 5).tail := by decide
theorem seeds_eq {boxes : List Box} (h : boxes.length = 5) : Kvg6.seeds boxes = bestP boxes (rowsP 5 5) := by
  obtain ⟨k, h1, h2⟩ := best_first boxes (0, 1) (rowsP 5 5).tail rfl ((0, 1) :: (rowsP 5 5).tail).length (by simp) (Nat.le_refl _)
  rw [List.take_length, ← rows5] at h2
  rw [← rows5] at h1
  have e : (fun q : Nat × Nat => [(bx boxes q.1).area + (bx boxes q.2).area - (join (bx boxes q.1) (bx boxes q.2)).area]) = fun q => [-(wq boxes q)] := by
    funext q
    show [_] = [_]
    congr 1
    unfold wq wst
    omega
  unfold Kvg6.seeds
  rw [h]
  dsimp only
  rw [pairs5]
  show (rowsP 5 5).getD (firstLeast ((rowsP 5 5).map fun q => [(bx boxes q.1).area + (bx boxes q.2).area - (join (bx boxes q.1) (bx boxes q.2)).area])) (0, 0) = _
  rw [e, firstLeast_map h1, h2]
theorem seeds_lt {boxes : List Box} (h : boxes.length = 5) : (Kvg6.seeds boxes).1 < (Kvg6.seeds boxes).2 ∧ (Kvg6.seeds boxes).2 < 5 := by
  obtain ⟨k, h1, h2⟩ := best_first boxes (0, 1) (rowsP 5 5).tail rfl ((0, 1) :: (rowsP 5 5).tail).length (by simp) (Nat.le_refl _)
  rw [List.take_length, ← rows5] at h2
  rw [← rows5] at h1
  rw [seeds_eq h, h2]
  have hk := h1.lt
  have hm : (rowsP 5 5).getD k (0, 0) ∈ rowsP 5 5 := by
    simp [List.getD, List.getElem?_eq_getElem hk]
  have all : ∀ q ∈ rowsP 5 5, q.1 < q.2 ∧ q.2 < 5 := by decide
  exact all _ hm

/-! the distribution -/
abbrev jA (boxes : List Box) (l : List Nat) : Box := joinAll (l.map (bx boxes))
def prf (boxes : List Box) (a b : List Nat) (i : Nat) : Int := enlargement (jA boxes a) (bx boxes i) - enlargement (jA boxes b) (bx boxes i)
abbrev gkey (boxes : List Box) (a : List Nat) (i : Nat) : List Int := [enlargement (jA boxes a) (bx boxes i), (jA boxes a).area, (a.length : Int)]
theorem dist_nil (boxes : List Box) (n : Nat) (a b : List Nat) : distribute boxes n [] a b = (a, b) := by
  cases n <;> rfl
theorem dist_A {boxes : List Box} {n : Nat} {rem a b : List Nat} (h : rem ≠ []) (h1 : a.length + rem.length = 2) : distribute boxes (n + 1) rem a b = (a ++ rem, b) := by
  rw [distribute]
  have e : rem.isEmpty = false := by cases rem <;> simp_all
  rw [e, if_neg (by decide), if_pos (show a.length + rem.length = minEntries from h1)]
theorem dist_B {boxes : List Box} {n : Nat} {rem a b : List Nat} (h : rem ≠ []) (h0 : ¬ a.length + rem.length = 2) (h1 : b.length + rem.length = 2) : distribute boxes (n + 1) rem a b = (a, b ++ rem) := by
  rw [distribute]
  have e : rem.isEmpty = false := by cases rem <;> simp_all
  rw [e, if_neg (by decide), if_neg (show ¬ a.length + rem.length = minEntries from h0), if_pos (show b.length + rem.length = minEntries from h1)]
theorem firstLeast_two (x y : List Int) : firstLeast [x, y] = if klt y x = true then 1 else 0 := by
  show (List.range 2).foldl (fun best i => if klt ([x, y].getD i []) ([x, y].getD best []) then i else best) 0 = _
  show (if klt y ([x, y].getD (if klt x x then 0 else 0) []) then 1 else (if klt x x then 0 else 0)) = _
  have e : (if klt x x then (0 : Nat) else 0) = 0 := by split <;> rfl
  rw [e]
  show (if klt y x = true then 1 else 0) = _
  rfl
theorem filter_erase : ∀ {rem : List Nat} {k : Nat}, rem.Nodup → k < rem.length → rem.filter (· != rem.getD k 0) = rem.eraseIdx k
  | [], k, _, h => absurd h (by simp)
  | x :: r, 0, hn, _ => by
    have h1 : x ∉ r := (List.nodup_cons.mp hn).1
    show (x :: r).filter (· != x) = r
    rw [List.filter_cons, if_neg (by simp)]
    exact List.filter_eq_self.mpr fun y hy => by simp; intro e; subst e; exact h1 hy
  | x :: r, k + 1, hn, h => by
    have hk : k < r.length := by simpa using h
    have h1 : x ∉ r := (List.nodup_cons.mp hn).1
    have ih := filter_erase (List.nodup_cons.mp hn).2 hk
    show (x :: r).filter (· != r.getD k 0) = x :: r.eraseIdx k
    have hm : r.getD k 0 ∈ r := by simp [List.getD, List.getElem?_eq_getElem hk]
    rw [List.filter_cons, if_pos (by simp; intro e; rw [← List.getD_eq_getElem?_getD] at e; exact h1 (by rw [e]; exact hm)), ih]
theorem dist_go {boxes : List Box} {n : Nat} {rem a b : List Nat} {k : Nat} (h : rem ≠ []) (h0 : ¬ a.length + rem.length = 2) (h1 : ¬ b.length + rem.length = 2) (hn : rem.Nodup)
    (hk : First (fun i => [-((prf boxes a b (rem.getD i 0)).natAbs : Int)]) rem.length k) :
    distribute boxes (n + 1) rem a b = if klt (gkey boxes b (rem.getD k 0)) (gkey boxes a (rem.getD k 0)) = true then distribute boxes n (rem.eraseIdx k) a (b ++ [rem.getD k 0]) else distribute boxes n (rem.eraseIdx k) (a ++ [rem.getD k 0]) b := by
  rw [distribute]
  have e : rem.isEmpty = false := by cases rem <;> simp_all
  rw [e, if_neg (by decide), if_neg (show ¬ a.length + rem.length = minEntries from h0), if_neg (show ¬ b.length + rem.length = minEntries from h1)]
  have ek : firstLeast (rem.map fun i => [-((prf boxes a b i).natAbs : Int)]) = k := firstLeast_map hk
  have ek' : firstLeast (rem.map fun i => [-((enlargement (joinAll (a.map fun i => boxes.getD i ⟨0, 0, 0, 0⟩)) (boxes.getD i ⟨0, 0, 0, 0⟩) - enlargement (joinAll (b.map fun i => boxes.getD i ⟨0, 0, 0, 0⟩)) (boxes.getD i ⟨0, 0, 0, 0⟩)).natAbs : Int)]) = k := ek
  dsimp only
  rw [ek', filter_erase hn hk.lt, firstLeast_two]
  by_cases c : klt (gkey boxes b (rem.getD k 0)) (gkey boxes a (rem.getD k 0)) = true
  · rw [if_pos c, if_pos c]; rfl
  · rw [if_neg c, if_neg c]; rfl
theorem erase_perm : ∀ {rem : List Nat} {k : Nat}, k < rem.length → (rem.getD k 0 :: rem.eraseIdx k).Perm rem
  | [], k, h => absurd h (by simp)
  | x :: r, 0, _ => List.Perm.refl _
  | x :: r, k + 1, h => by
    have ih := erase_perm (rem := r) (k := k) (by simpa using h)
    show (r.getD k 0 :: x :: r.eraseIdx k).Perm (x :: r)
    exact (List.Perm.swap _ _ _).trans (ih.cons x)
theorem dist_all (boxes : List Box) : ∀ (n : Nat) (rem a b : List Nat), rem.length ≤ n → rem.Nodup → a.length + b.length + rem.length = 5 → 2 ≤ a.length + rem.length → 2 ≤ b.length + rem.length →
    (((distribute boxes n rem a b).1 ++ (distribute boxes n rem a b).2).Perm (a ++ b ++ rem)) ∧ 2 ≤ (distribute boxes n rem a b).1.length ∧ 2 ≤ (distribute boxes n rem a b).2.length
  | n, [], a, b, _, _, _, h1, h2 => by
    rw [dist_nil]
    simp only [List.append_nil]
    exact ⟨List.Perm.refl _, by simpa using h1, by simpa using h2⟩
  | 0, x :: r, a, b, h, _, _, _, _ => absurd h (by simp)
  | n + 1, x :: r, a, b, hn, hd, h5, h1, h2 => by
    by_cases c1 : a.length + (x :: r).length = 2
    · rw [dist_A (by simp) c1]
      refine ⟨?_, ?_, ?_⟩
      · show ((a ++ (x :: r)) ++ b).Perm (a ++ b ++ (x :: r))
        rw [List.append_assoc, List.append_assoc]
        exact (List.perm_append_comm).append_left a
      · show 2 ≤ (a ++ (x :: r)).length
        rw [List.length_append]; omega
      · show 2 ≤ b.length
        omega
    · by_cases c2 : b.length + (x :: r).length = 2
      · rw [dist_B (by simp) c1 c2]
        refine ⟨?_, ?_, ?_⟩
        · show (a ++ (b ++ (x :: r))).Perm (a ++ b ++ (x :: r))
          rw [List.append_assoc]
        · show 2 ≤ a.length
          omega
        · show 2 ≤ (b ++ (x :: r)).length
          rw [List.length_append]; omega
      · have hk := firstLeast_first ((x :: r).map fun i => [-((prf boxes a b i).natAbs : Int)]) (by simp)
        rw [List.length_map] at hk
        have hk' : First (fun i => [-((prf boxes a b ((x :: r).getD i 0)).natAbs : Int)]) (x :: r).length (firstLeast ((x :: r).map fun i => [-((prf boxes a b i).natAbs : Int)])) := by
          refine hk.congr fun j hj => ?_
          have e1 : ((x :: r).map fun i => [-((prf boxes a b i).natAbs : Int)])[j]? = some [-((prf boxes a b ((x :: r)[j])).natAbs : Int)] := by
            rw [List.getElem?_map, List.getElem?_eq_getElem hj]; rfl
          have e2 : (x :: r)[j]? = some ((x :: r)[j]) := List.getElem?_eq_getElem hj
          simp only [List.getD, e1, e2, Option.getD_some]
        generalize firstLeast ((x :: r).map fun i => [-((prf boxes a b i).natAbs : Int)]) = k at hk hk'
        rw [dist_go (by simp) c1 c2 hd hk']
        have hp := erase_perm hk'.lt
        have hl : ((x :: r).eraseIdx k).length + 1 = (x :: r).length := by
          have e := hp.length_eq
          simpa using e
        have hd' : ((x :: r).eraseIdx k).Nodup := (List.nodup_cons.mp (hp.nodup_iff.mpr hd)).2
        split
        · obtain ⟨i1, i2, i3⟩ := dist_all boxes n ((x :: r).eraseIdx k) a (b ++ [(x :: r).getD k 0]) (by omega) hd' (by rw [List.length_append]; simp only [List.length_singleton]; omega) (by omega) (by rw [List.length_append]; simp only [List.length_singleton]; omega)
          refine ⟨i1.trans ?_, i2, i3⟩
          rw [← List.append_assoc, List.append_assoc (a ++ b)]
          exact hp.append_left _
        · obtain ⟨i1, i2, i3⟩ := dist_all boxes n ((x :: r).eraseIdx k) (a ++ [(x :: r).getD k 0]) b (by omega) hd' (by rw [List.length_append]; simp only [List.length_singleton]; omega) (by rw [List.length_append]; simp only [List.length_singleton]; omega) (by omega)
          refine ⟨i1.trans ?_, i2, i3⟩
          have e1 : (a ++ [(x :: r).getD k 0] ++ b ++ (x :: r).eraseIdx k).Perm (a ++ b ++ ([(x :: r).getD k 0] ++ (x :: r).eraseIdx k)) := by
            rw [List.append_assoc, List.append_assoc, List.append_assoc]
            refine List.Perm.append_left a ?_
            rw [← List.append_assoc, ← List.append_assoc]
            exact (List.perm_append_comm).append_right _
          exact e1.trans (hp.append_left _)
/-- the indices that remain behind the seeds -/
abbrev rem0 (n : Nat) (q : Nat × Nat) : List Nat := (List.range n).filter fun k => k != q.1 && k != q.2
theorem split_eq (boxes : List Box) : splitIndices boxes = distribute boxes boxes.length (rem0 boxes.length (Kvg6.seeds boxes)) [(Kvg6.seeds boxes).1] [(Kvg6.seeds boxes).2] := rfl
theorem rem5_facts : ∀ q1 q2 : Fin 5, q1 < q2 → (rem0 5 (q1.val, q2.val)).length = 3 ∧ (rem0 5 (q1.val, q2.val)).Nodup ∧ ([q1.val] ++ [q2.val] ++ rem0 5 (q1.val, q2.val)).Perm (List.range 5) := by decide
theorem split_all {boxes : List Box} (h : boxes.length = 5) : ((splitIndices boxes).1 ++ (splitIndices boxes).2).Perm (List.range 5) ∧ (2 ≤ (splitIndices boxes).1.length ∧ (splitIndices boxes).1.length ≤ 3) ∧ (2 ≤ (splitIndices boxes).2.length ∧ (splitIndices boxes).2.length ≤ 3) := by
  obtain ⟨h1, h2⟩ := seeds_lt h
  rw [split_eq, h]
  generalize Kvg6.seeds boxes = q at h1 h2
  obtain ⟨i, j⟩ := q
  obtain ⟨f1, f2, f3⟩ := rem5_facts ⟨i, by omega⟩ ⟨j, h2⟩ h1
  obtain ⟨d1, d2, d3⟩ := dist_all boxes 5 (rem0 5 (i, j)) [i] [j] (by rw [f1]; omega) f2 (by rw [f1]; rfl) (by rw [f1, List.length_singleton]; decide) (by rw [f1, List.length_singleton]; decide)
  have d4 := d1.trans f3
  show ((distribute boxes 5 (rem0 5 (i, j)) [i] [j]).1 ++ (distribute boxes 5 (rem0 5 (i, j)) [i] [j]).2).Perm _ ∧ (2 ≤ (distribute boxes 5 (rem0 5 (i, j)) [i] [j]).1.length ∧ (distribute boxes 5 (rem0 5 (i, j)) [i] [j]).1.length ≤ 3) ∧ (2 ≤ (distribute boxes 5 (rem0 5 (i, j)) [i] [j]).2.length ∧ (distribute boxes 5 (rem0 5 (i, j)) [i] [j]).2.length ≤ 3)
  have d5 := d4.length_eq
  rw [List.length_append, List.length_range] at d5
  exact ⟨d4, ⟨d2, by omega⟩, d3, by omega⟩
/-- by places -/
def pick {α : Type} (l : List α) (ix : List Nat) : List α := ix.filterMap fun i => l[i]?
theorem splitList_eq {α : Type} (box : α → Box) (l : List α) : splitList box l = (pick l (splitIndices (l.map box)).1, pick l (splitIndices (l.map box)).2) := rfl
theorem pick_len {α : Type} {l : List α} : ∀ {ix : List Nat}, (∀ i ∈ ix, i < l.length) → (pick l ix).length = ix.length
  | [], _ => rfl
  | i :: ix, h => by
    have h1 := h i List.mem_cons_self
    unfold pick
    rw [List.filterMap_cons_some (by rw [List.getElem?_eq_getElem h1])]
    show _ + 1 = _ + 1
    rw [show (ix.filterMap fun i => l[i]?) = pick l ix from rfl, pick_len fun j hj => h j (List.mem_cons_of_mem _ hj)]
theorem pick_map {α β : Type} (f : α → β) (l : List α) (ix : List Nat) : pick (l.map f) ix = (pick l ix).map f := by
  unfold pick
  rw [List.map_filterMap]
  congr 1
  funext i
  rw [List.getElem?_map]
theorem pick_append {α : Type} (l : List α) (a b : List Nat) : pick l (a ++ b) = pick l a ++ pick l b := List.filterMap_append ..
theorem pick_range {α : Type} (l : List α) : pick l (List.range l.length) = l := by
  unfold pick
  have key : ∀ (k : Nat), k ≤ l.length → ((List.range k).filterMap fun i => l[i]?) = l.take k := by
    intro k
    induction k with
    | zero => intro _; simp
    | succ k ih =>
      intro hk
      rw [List.range_succ, List.filterMap_append, ih (by omega), List.take_succ_eq_append_getElem (by omega)]
      simp [List.getElem?_eq_getElem (show k < l.length by omega)]
  rw [key _ (Nat.le_refl _), List.take_length]
theorem pick_perm {α : Type} {l : List α} {a b : List Nat} (h : (a ++ b).Perm (List.range l.length)) : (pick l a ++ pick l b).Perm l := by
  rw [← pick_append]
  have h1 := h.filterMap fun i => l[i]?
  have h2 : pick l (List.range l.length) = l := pick_range l
  unfold pick at *
  rw [h2] at h1
  exact h1
theorem pick_mem {α : Type} {l : List α} {ix : List Nat} {x : α} (h : x ∈ pick l ix) : x ∈ l := by
  obtain ⟨i, _, e⟩ := List.mem_filterMap.mp h
  exact List.mem_of_getElem? e
structure SplitOk {α : Type} (l a b : List α) : Prop where
  perm : (a ++ b).Perm l
  la : 2 ≤ a.length ∧ a.length ≤ 4
  lb : 2 ≤ b.length ∧ b.length ≤ 4
theorem splitList_ok {α : Type} (box : α → Box) {l : List α} (h : l.length = 5) : SplitOk l (splitList box l).1 (splitList box l).2 := by
  have hb : (l.map box).length = 5 := by rw [List.length_map, h]
  obtain ⟨s1, s2, s3⟩ := split_all hb
  rw [splitList_eq]
  have hall : ∀ i ∈ (splitIndices (l.map box)).1 ++ (splitIndices (l.map box)).2, i < l.length := fun i hi => by
    have := s1.mem_iff.mp hi
    rw [h]
    exact List.mem_range.mp this
  refine ⟨pick_perm (by rw [h]; exact s1), ?_, ?_⟩
  · rw [pick_len fun i hi => hall i (List.mem_append_left _ hi)]; omega
  · rw [pick_len fun i hi => hall i (List.mem_append_right _ hi)]; omega
end BF
namespace BF
open Kvg6
/-! ### D. insertion -/
theorem choose_first {boxes : List Box} {b : Box} (h : 0 < boxes.length) : First (fun i => [enlargement (bx boxes i) b, (bx boxes i).area]) boxes.length (chooseChild boxes b) := by
  have h1 := firstLeast_first (boxes.map fun c => [enlargement c b, c.area]) (by rw [List.length_map]; exact h)
  rw [List.length_map] at h1
  refine h1.congr fun j hj => ?_
  have e1 : (boxes.map fun c => [enlargement c b, c.area])[j]? = some [enlargement boxes[j] b, boxes[j].area] := by
    rw [List.getElem?_map, List.getElem?_eq_getElem hj]; rfl
  have e2 : boxes[j]? = some boxes[j] := List.getElem?_eq_getElem hj
  simp only [bx, List.getD, e1, e2, Option.getD_some]
theorem choose_eq {boxes : List Box} {b : Box} {k : Nat} (h : First (fun i => [enlargement (bx boxes i) b, (bx boxes i).area]) boxes.length k) : chooseChild boxes b = k :=
  (choose_first (by have := h.lt; omega)).uniq h
theorem choose_lt {boxes : List Box} {b : Box} (h : 0 < boxes.length) : chooseChild boxes b < boxes.length := (choose_first h).lt

/-- one node, or the two of a split -/
def parts {α : Type} (box : α → Box) (mk : List α → Tree) (l : List α) : List Tree :=
  if l.length ≤ 4 then [mk l] else [mk (splitList box l).1, mk (splitList box l).2]
/-- the child that an insertion takes -/
abbrev pickCh (ch : List Tree) (b : Box) : Nat := chooseChild (ch.map Tree.box) b
theorem ins_leaf (n : Nat) (items : List Item) (it : Item) : insertInto n (.leaf items) it = parts Item.box .leaf (items ++ [it]) := by
  cases n <;> rfl
theorem ins_node (n : Nat) (ch : List Tree) (it : Item) : insertInto (n + 1) (.node ch) it =
    parts Tree.box .node (ch.take (pickCh ch it.box) ++ (match ch[pickCh ch it.box]? with | some c => insertInto n c it | none => []) ++ ch.drop (pickCh ch it.box + 1)) := rfl
theorem ins_node_at {n : Nat} {ch : List Tree} {it : Item} {c : Tree} (h : ch[pickCh ch it.box]? = some c) : insertInto (n + 1) (.node ch) it =
    parts Tree.box .node (ch.take (pickCh ch it.box) ++ insertInto n c it ++ ch.drop (pickCh ch it.box + 1)) := by
  rw [ins_node, h]
theorem ins_fuel : ∀ (k : Nat) (t : Tree) (it : Item), Bal k t → ∀ m n, k ≤ m → k ≤ n → insertInto m t it = insertInto n t it
  | 0, t, it, h, m, n, _, _ => by
    obtain ⟨items, rfl⟩ := h.leaf
    rw [ins_leaf, ins_leaf]
  | k + 1, t, it, h, m, n, hm, hn => by
    obtain ⟨ch, rfl, hc⟩ := h.node
    cases m with
    | zero => omega
    | succ m =>
      cases n with
      | zero => omega
      | succ n =>
        rw [ins_node, ins_node]
        cases e : ch[pickCh ch it.box]? with
        | none => rfl
        | some c =>
          dsimp only
          rw [ins_fuel k c it (hc c (List.mem_of_getElem? e)) m n (by omega) (by omega)]
/-- the result of an insertion below a node -/
structure InsOk (n : Nat) (t : Tree) (it : Item) (r : List Tree) : Prop where
  two : r.length = 1 ∨ (r.length = 2 ∧ ∀ c ∈ r, Full n c)
  root : Root n t → ∀ c ∈ r, Root n c
  full : Full n t → ∀ c ∈ r, Full n c
  perm : (r.flatMap (itemsOfTree n)).Perm (itemsOfTree n t ++ [it])
theorem parts_len {α : Type} (box : α → Box) (mk : List α → Tree) (l : List α) : (parts box mk l).length = 1 ∨ (parts box mk l).length = 2 := by
  unfold parts; split
  · exact .inl rfl
  · exact .inr rfl
theorem ins_ok : ∀ (n : Nat) (t : Tree) (it : Item), Root n t → InsOk n t it (insertInto n t it)
  | 0, t, it, h => by
    obtain ⟨items, rfl⟩ := h.bal.leaf
    have h4 : items.length ≤ 4 := h
    rw [ins_leaf]
    unfold parts
    by_cases c : (items ++ [it]).length ≤ 4
    · rw [if_pos c]
      refine ⟨.inl rfl, fun _ c' hc => ?_, fun hf c' hc => ?_, by simp [itemsOfTree]⟩
      · rw [List.mem_singleton.mp hc]; exact c
      · rw [List.mem_singleton.mp hc]
        refine ⟨?_, c⟩
        have := hf.1
        rw [List.length_append]; omega
    · rw [if_neg c]
      have h5 : (items ++ [it]).length = 5 := by rw [List.length_append, List.length_singleton] at *; omega
      have s := splitList_ok Item.box h5
      have hfull : ∀ c ∈ [Tree.leaf (splitList Item.box (items ++ [it])).1, Tree.leaf (splitList Item.box (items ++ [it])).2], Full 0 c := fun c hc => by
        rcases List.mem_cons.mp hc with rfl | hc
        · exact s.la
        · rw [List.mem_singleton.mp hc]; exact s.lb
      refine ⟨.inr ⟨rfl, hfull⟩, fun _ c hc => (hfull c hc).root, fun _ c hc => hfull c hc, ?_⟩
      show ((splitList Item.box (items ++ [it])).1 ++ ((splitList Item.box (items ++ [it])).2 ++ [])).Perm (items ++ [it])
      rw [List.append_nil]
      exact s.perm
  | n + 1, t, it, h => by
    obtain ⟨ch, rfl, _⟩ := h.bal.node
    obtain ⟨⟨h2, h4⟩, hf⟩ := h
    have hlt : pickCh ch it.box < ch.length := by
      have := choose_lt (boxes := ch.map Tree.box) (b := it.box) (by rw [List.length_map]; omega)
      rwa [List.length_map] at this
    have hc : ch[pickCh ch it.box]? = some ch[pickCh ch it.box] := List.getElem?_eq_getElem hlt
    have hm : ch[pickCh ch it.box] ∈ ch := List.getElem_mem hlt
    have ih := ins_ok n ch[pickCh ch it.box] it (hf _ hm).root
    have ihf := ih.full (hf _ hm)
    rw [ins_node_at hc]
    generalize insertInto n ch[pickCh ch it.box] it = r at ih ihf
    have hl : (ch.take (pickCh ch it.box) ++ r ++ ch.drop (pickCh ch it.box + 1)).length = ch.length - 1 + r.length := by
      rw [List.length_append, List.length_append, List.length_take, List.length_drop]; omega
    have hr : r.length = 1 ∨ r.length = 2 := by
      rcases ih.two with h | ⟨h, _⟩
      · exact .inl h
      · exact .inr h
    have hall : ∀ c ∈ ch.take (pickCh ch it.box) ++ r ++ ch.drop (pickCh ch it.box + 1), Full n c := fun c hc => by
      rcases List.mem_append.mp hc with hc | hc
      · rcases List.mem_append.mp hc with hc | hc
        · exact hf c (List.mem_of_mem_take hc)
        · exact ihf c hc
      · exact hf c (List.mem_of_mem_drop hc)
    have hperm : ((ch.take (pickCh ch it.box) ++ r ++ ch.drop (pickCh ch it.box + 1)).flatMap (itemsOfTree n)).Perm (ch.flatMap (itemsOfTree n) ++ [it]) := by
      have e : ch = ch.take (pickCh ch it.box) ++ ([ch[pickCh ch it.box]] ++ ch.drop (pickCh ch it.box + 1)) := by
        have h1 := List.take_append_drop (pickCh ch it.box) ch
        rw [List.drop_eq_getElem_cons hlt] at h1
        exact h1.symm
      conv => rhs; rw [e]
      simp only [List.flatMap_append, List.append_assoc]
      refine List.Perm.append_left _ ?_
      refine (ih.perm.append_right _).trans ?_
      have e2 : [ch[pickCh ch it.box]].flatMap (itemsOfTree n) = itemsOfTree n ch[pickCh ch it.box] := by simp
      rw [e2, List.append_assoc]
      exact (List.perm_append_comm).append_left _
    generalize ch.take (pickCh ch it.box) ++ r ++ ch.drop (pickCh ch it.box + 1) = l at hl hall hperm
    unfold parts
    by_cases c : l.length ≤ 4
    · rw [if_pos c]
      have hfull : Full (n + 1) (.node l) := ⟨⟨by omega, c⟩, hall⟩
      refine ⟨.inl rfl, fun _ c' hc' => ?_, fun _ c' hc' => ?_, ?_⟩
      · rw [List.mem_singleton.mp hc']; exact hfull.root
      · rw [List.mem_singleton.mp hc']; exact hfull
      · show (l.flatMap (itemsOfTree n) ++ []).Perm _
        rw [List.append_nil]; exact hperm
    · rw [if_neg c]
      have s := splitList_ok Tree.box (l := l) (by omega)
      have hfull : ∀ c ∈ [Tree.node (splitList Tree.box l).1, Tree.node (splitList Tree.box l).2], Full (n + 1) c := fun c hc => by
        rcases List.mem_cons.mp hc with rfl | hc
        · exact ⟨s.la, fun x hx => hall x (s.perm.mem_iff.mp (List.mem_append_left _ hx))⟩
        · rw [List.mem_singleton.mp hc]
          exact ⟨s.lb, fun x hx => hall x (s.perm.mem_iff.mp (List.mem_append_right _ hx))⟩
      refine ⟨.inr ⟨rfl, hfull⟩, fun _ c hc => (hfull c hc).root, fun _ c hc => hfull c hc, ?_⟩
      show ((splitList Tree.box l).1.flatMap (itemsOfTree n) ++ ((splitList Tree.box l).2.flatMap (itemsOfTree n) ++ [])).Perm _
      rw [List.append_nil, ← List.flatMap_append]
      exact (s.perm.flatMap_right _).trans hperm
/-- insert, by the tree's own height -/
def insAt (n : Nat) (t : Tree) (it : Item) : Tree := match insertInto n t it with
  | [single] => single
  | l => .node l
theorem insert_eq {n : Nat} {t : Tree} {it : Item} (h : Bal n t) (hn : n ≤ 16) : Kvg6.insert t it = insAt n t it := by
  unfold Kvg6.insert insAt
  rw [ins_fuel n t it h fuel n hn (Nat.le_refl _)]
  rfl
/-- behind an insertion: the tree is as high, or one higher -/
theorem insAt_ok {n : Nat} {t : Tree} {it : Item} (h : Root n t) : ∃ m, (m = n ∨ m = n + 1) ∧ Root m (insAt n t it) ∧ (itemsOfTree m (insAt n t it)).Perm (itemsOfTree n t ++ [it]) := by
  have o := ins_ok n t it h
  unfold insAt
  generalize insertInto n t it = r at o
  rcases r with _ | ⟨a, _ | ⟨b, _ | ⟨c, r⟩⟩⟩
  · rcases o.two with z | ⟨z, _⟩ <;> simp at z
  · refine ⟨n, .inl rfl, o.root h a List.mem_cons_self, ?_⟩
    have p := o.perm
    simpa using p
  · have hf : ∀ c ∈ [a, b], Full n c := by
      rcases o.two with z | ⟨_, z⟩
      · simp at z
      · exact z
    exact ⟨n + 1, .inr rfl, ⟨⟨by simp, by simp⟩, hf⟩, o.perm⟩
  · rcases o.two with z | ⟨z, _⟩ <;> simp at z
end BF
namespace BF
open Kvg6
/-! ### E. removal -/
abbrev has (n : Nat) (t : Tree) (id : Nat) : Bool := (itemsOfTree n t).any fun it => it.id == id
/-- the first child below which the item is -/
def whichCh (n : Nat) (ch : List Tree) (id : Nat) : Nat := (ch.findIdx? fun c => has n c id).getD 0
def entries : Tree → Nat
  | .leaf items => items.length
  | .node l => l.length
/-- a node without an item, and the orphans -/
def rmv : Nat → Tree → Nat → Tree × List Item
  | _, .leaf items, id => (.leaf (items.filter fun it => it.id != id), [])
  | 0, .node ch, _ => (.node ch, [])
  | n + 1, .node ch, id => match ch[whichCh n ch id]? with
    | none => (.node ch, [])
    | some c =>
      let q := rmv n c id
      if entries q.1 < 2 then (.node (ch.eraseIdx (whichCh n ch id)), q.2 ++ itemsOfTree n q.1)
      else (.node (ch.set (whichCh n ch id) q.1), q.2)
theorem rmv_leaf (n : Nat) (items : List Item) (id : Nat) : rmv n (.leaf items) id = (.leaf (items.filter fun it => it.id != id), []) := by
  cases n <;> rfl
theorem rmv_bal : ∀ (n : Nat) (t : Tree) (id : Nat), Bal n t → Bal n (rmv n t id).1
  | 0, t, id, h => by
    obtain ⟨items, rfl⟩ := h.leaf
    rw [rmv_leaf]; trivial
  | n + 1, t, id, h => by
    obtain ⟨ch, rfl, hc⟩ := h.node
    rw [rmv]
    cases e : ch[whichCh n ch id]? with
    | none => exact hc
    | some c =>
      dsimp only
      have ih := rmv_bal n c id (hc c (List.mem_of_getElem? e))
      split
      · exact fun x hx => hc x (List.mem_of_mem_eraseIdx hx)
      · intro x hx
        rcases List.mem_or_eq_of_mem_set hx with hx | hx
        · exact hc x hx
        · rw [hx]; exact ih
theorem which_spec {n : Nat} {ch : List Tree} {id : Nat} (h : ∃ c ∈ ch, has n c id = true) :
    ∃ c, ch[whichCh n ch id]? = some c ∧ has n c id = true ∧ ∀ j c', j < whichCh n ch id → ch[j]? = some c' → has n c' id = false := by
  obtain ⟨c, hm, hc⟩ := h
  unfold whichCh
  cases e : ch.findIdx? fun c => has n c id with
  | none =>
    have := List.findIdx?_eq_none_iff.mp e c hm
    rw [hc] at this; cases this
  | some i =>
    obtain ⟨h1, h2, h3⟩ := List.findIdx?_eq_some_iff_getElem.mp e
    refine ⟨ch[i], List.getElem?_eq_getElem h1, h2, fun j c' hj hc' => ?_⟩
    have hj' : j < i := hj
    have h4 := h3 j hj'
    have e2 : ch[j]? = some ch[j] := List.getElem?_eq_getElem (by omega)
    rw [e2] at hc'
    cases hc'
    simpa using h4
theorem which_eq {n : Nat} {ch : List Tree} {id k : Nat} {c : Tree} (h1 : ch[k]? = some c) (h2 : has n c id = true) (h3 : ∀ j c', j < k → ch[j]? = some c' → has n c' id = false) : whichCh n ch id = k := by
  unfold whichCh
  obtain ⟨hk, ek⟩ := List.getElem?_eq_some_iff.mp h1
  have : ch.findIdx? (fun c => has n c id) = some k := by
    refine List.findIdx?_eq_some_iff_getElem.mpr ⟨hk, by rw [ek]; exact h2, fun j hj => ?_⟩
    have := h3 j ch[j] hj (List.getElem?_eq_getElem (by omega))
    rw [this]; simp
  rw [this]; rfl
/-- the specification's removal, by the tree's own height -/
theorem rm_none : ∀ (n : Nat) (t : Tree) (id : Nat), Bal n t → has n t id = false → ∀ m, n ≤ m → removeFrom m t id = none
  | 0, t, id, h, hn, m, _ => by
    obtain ⟨items, rfl⟩ := h.leaf
    have e : (items.any fun item => item.id == id) = false := hn
    cases m <;> (rw [removeFrom, e]; rfl)
  | n + 1, t, id, h, hn, m, hm => by
    obtain ⟨ch, rfl, hc⟩ := h.node
    cases m with
    | zero => omega
    | succ m =>
      rw [removeFrom]
      refine List.findSome?_eq_none_iff.mpr fun i hi => ?_
      cases e : ch[i]? with
      | none => rfl
      | some c =>
        dsimp only
        have hm' := List.mem_of_getElem? e
        have : has n c id = false := by
          cases e2 : has n c id with
          | false => rfl
          | true =>
            obtain ⟨it, h1, h2⟩ := List.any_eq_true.mp e2
            have : has (n + 1) (.node ch) id = true := List.any_eq_true.mpr ⟨it, List.mem_flatMap.mpr ⟨c, hm', h1⟩, h2⟩
            rw [hn] at this; cases this
        rw [rm_none n c id (hc c hm') this m (by omega)]
        rfl
theorem findSome_range {β : Type} {f : Nat → Option β} {n k : Nat} {b : β} (hk : k < n) (h1 : f k = some b) (h2 : ∀ j, j < k → f j = none) : (List.range n).findSome? f = some b := by
  have e : List.range n = List.range k ++ k :: (List.range (n - (k + 1))).map (k + 1 + ·) := by
    rw [show List.range n = List.range (k + 1 + (n - (k + 1))) by congr 1; omega, List.range_add, List.range_succ]
    simp
  rw [e, List.findSome?_append, List.findSome?_eq_none_iff.mpr fun j hj => h2 j (List.mem_range.mp hj), List.findSome?_cons, h1]
  rfl
theorem rm_some : ∀ (n : Nat) (t : Tree) (id : Nat), Bal n t → has n t id = true → n ≤ 15 → ∀ m, n ≤ m → removeFrom m t id = some (rmv n t id)
  | 0, t, id, h, hn, _, m, _ => by
    obtain ⟨items, rfl⟩ := h.leaf
    have e : (items.any fun item => item.id == id) = true := hn
    cases m <;> (rw [removeFrom, e]; rfl)
  | n + 1, t, id, h, hn, h15, m, hm => by
    obtain ⟨ch, rfl, hc⟩ := h.node
    cases m with
    | zero => omega
    | succ m =>
      obtain ⟨it, h1, h2⟩ := List.any_eq_true.mp hn
      obtain ⟨c0, hm0, hi0⟩ := List.mem_flatMap.mp h1
      obtain ⟨c, ec, hc1, hc2⟩ := which_spec (n := n) (ch := ch) (id := id) ⟨c0, hm0, List.any_eq_true.mpr ⟨it, hi0, h2⟩⟩
      obtain ⟨hk, _⟩ := List.getElem?_eq_some_iff.mp ec
      have hcm := List.mem_of_getElem? ec
      rw [removeFrom, rmv, ec]
      dsimp only
      refine findSome_range hk (?_ : _ = some _) fun j hj => ?_
      · rw [ec]
        dsimp only
        rw [rm_some n c id (hc c hcm) hc1 (by omega) m (by omega)]
        have e3 : (rmv n c id).1.items = itemsOfTree n (rmv n c id).1 := items_of (rmv_bal n c id (hc c hcm)) (by omega)
        simp only [Option.map_some]
        rw [show minEntries = 2 from rfl, e3]
        show some (if entries (rmv n c id).1 < 2 then _ else _) = _
        by_cases c2 : entries (rmv n c id).1 < 2
        · rw [if_pos c2]
        · rw [if_neg c2]
      · have hj' : j < ch.length := by omega
        rw [List.getElem?_eq_getElem hj']
        dsimp only
        rw [rm_none n ch[j] id (hc _ (List.getElem_mem hj')) (hc2 j ch[j] hj (List.getElem?_eq_getElem hj')) m (by omega)]
        rfl
/-- what is left of a node: one entry at least where the node had two -/
def Slim : Nat → Tree → Prop
  | 0, .leaf items => 1 ≤ items.length ∧ items.length ≤ 4
  | n + 1, .node ch => (1 ≤ ch.length ∧ ch.length ≤ 4) ∧ ∀ c ∈ ch, Full n c
  | _, _ => False
theorem Slim.full {n : Nat} {t : Tree} (h : Slim n t) (h2 : 2 ≤ entries t) : Full n t := by
  cases n with
  | zero => cases t with
    | leaf items => exact ⟨h2, h.2⟩
    | node ch => exact h.elim
  | succ n => cases t with
    | leaf items => exact h.elim
    | node ch => exact ⟨⟨h2, h.1.2⟩, h.2⟩
theorem filter_one : ∀ {items : List Item} {id : Nat}, (items.map Item.id).Nodup → (items.any fun it => it.id == id) = true → (items.filter fun it => it.id != id).length + 1 = items.length
  | [], id, _, h => by simp at h
  | a :: r, id, hn, h => by
    rw [List.map_cons, List.nodup_cons] at hn
    by_cases e : a.id = id
    · have e2 : r.filter (fun it => it.id != id) = r := List.filter_eq_self.mpr fun x hx => by
        simp only [bne_iff_ne, ne_eq]
        intro z
        exact hn.1 (List.mem_map.mpr ⟨x, hx, z.trans e.symm⟩)
      rw [List.filter_cons, if_neg (by simp [e]), e2]; rfl
    · have h' : (r.any fun it => it.id == id) = true := by
        rw [List.any_cons] at h
        have e3 : (a.id == id) = false := by simpa using e
        rw [e3] at h; simpa using h
      have ih := filter_one hn.2 h'
      rw [List.filter_cons, if_pos (by simpa using e)]
      simp only [List.length_cons]; omega
structure RmvOk (n : Nat) (t : Tree) (id : Nat) (q : Tree × List Item) : Prop where
  slim : Slim n q.1
  perm : (itemsOfTree n q.1 ++ q.2).Perm ((itemsOfTree n t).filter fun it => it.id != id)
theorem flat_nodup_mem {n : Nat} {ch : List Tree} (h : ((ch.flatMap (itemsOfTree n)).map Item.id).Nodup) {c : Tree} (hc : c ∈ ch) : ((itemsOfTree n c).map Item.id).Nodup := by
  induction ch with
  | nil => cases hc
  | cons a r ih =>
    rw [List.flatMap_cons, List.map_append, List.nodup_append] at h
    rcases List.mem_cons.mp hc with rfl | hc
    · exact h.1
    · exact ih h.2.1 hc
theorem flat_split {n : Nat} {ch : List Tree} {k : Nat} {c : Tree} (e : ch[k]? = some c) : ch = ch.take k ++ c :: ch.drop (k + 1) := by
  obtain ⟨hk, rfl⟩ := List.getElem?_eq_some_iff.mp e
  have h1 := List.take_append_drop k ch
  rw [List.drop_eq_getElem_cons hk] at h1
  exact h1.symm
theorem filter_others {n : Nat} {ch : List Tree} {k id : Nat} {c : Tree} (hn : ((ch.flatMap (itemsOfTree n)).map Item.id).Nodup) (e : ch[k]? = some c) (hc : has n c id = true) :
    (ch.flatMap (itemsOfTree n)).filter (fun it => it.id != id) = (ch.take k).flatMap (itemsOfTree n) ++ ((itemsOfTree n c).filter (fun it => it.id != id) ++ (ch.drop (k + 1)).flatMap (itemsOfTree n)) := by
  have es := flat_split (n := n) e
  obtain ⟨it, h1, h2⟩ := List.any_eq_true.mp hc
  have h2' : it.id = id := by simpa using h2
  have ef : ch.flatMap (itemsOfTree n) = (ch.take k).flatMap (itemsOfTree n) ++ (itemsOfTree n c ++ (ch.drop (k + 1)).flatMap (itemsOfTree n)) := by
    conv => lhs; rw [es]
    rw [List.flatMap_append, List.flatMap_cons]
  rw [ef] at hn ⊢
  rw [List.map_append, List.map_append, List.nodup_append, List.nodup_append] at hn
  obtain ⟨_, ⟨_, _, n3⟩, n4⟩ := hn
  have hid : id ∈ (itemsOfTree n c).map Item.id := List.mem_map.mpr ⟨it, h1, h2'⟩
  rw [List.filter_append, List.filter_append]
  have e1 : ((ch.take k).flatMap (itemsOfTree n)).filter (fun it => it.id != id) = (ch.take k).flatMap (itemsOfTree n) := List.filter_eq_self.mpr fun x hx => by
    simp only [bne_iff_ne, ne_eq]
    intro z
    exact n4 x.id (List.mem_map_of_mem hx) id (List.mem_append_left _ hid) z
  have e3 : ((ch.drop (k + 1)).flatMap (itemsOfTree n)).filter (fun it => it.id != id) = (ch.drop (k + 1)).flatMap (itemsOfTree n) := List.filter_eq_self.mpr fun x hx => by
    simp only [bne_iff_ne, ne_eq]
    intro z
    exact n3 id hid x.id (List.mem_map_of_mem hx) z.symm
  rw [e1, e3]
theorem rmv_ok : ∀ (n : Nat) (t : Tree) (id : Nat), Full n t → ((itemsOfTree n t).map Item.id).Nodup → has n t id = true → RmvOk n t id (rmv n t id)
  | 0, t, id, h, hn, hh => by
    obtain ⟨items, rfl⟩ := h.bal.leaf
    rw [rmv_leaf]
    have e := filter_one (items := items) hn hh
    refine ⟨?_, ?_⟩
    · have h1 : 2 ≤ items.length := h.1
      have h2 : items.length ≤ 4 := h.2
      exact ⟨by omega, by omega⟩
    · show ((items.filter _) ++ []).Perm _
      rw [List.append_nil]
      exact List.Perm.refl _
  | n + 1, t, id, h, hn, hh => by
    obtain ⟨ch, rfl, _⟩ := h.bal.node
    obtain ⟨⟨h2, h4⟩, hf⟩ := h
    obtain ⟨it, h1, h2'⟩ := List.any_eq_true.mp hh
    obtain ⟨c0, hm0, hi0⟩ := List.mem_flatMap.mp h1
    obtain ⟨c, ec, hc1, hc2⟩ := which_spec (n := n) (ch := ch) (id := id) ⟨c0, hm0, List.any_eq_true.mpr ⟨it, hi0, h2'⟩⟩
    have hcm := List.mem_of_getElem? ec
    obtain ⟨hk, _⟩ := List.getElem?_eq_some_iff.mp ec
    have hn' : ((ch.flatMap (itemsOfTree n)).map Item.id).Nodup := hn
    have ih := rmv_ok n c id (hf c hcm) (flat_nodup_mem hn' hcm) hc1
    have ef := filter_others hn' ec hc1
    rw [rmv, ec]
    dsimp only
    generalize rmv n c id = q at ih
    generalize whichCh n ch id = k at *
    show RmvOk (n + 1) (.node ch) id (if entries q.1 < 2 then (.node (ch.eraseIdx k), q.2 ++ itemsOfTree n q.1) else (.node (ch.set k q.1), q.2))
    by_cases c2 : entries q.1 < 2
    · rw [if_pos c2]
      refine ⟨⟨?_, fun x hx => hf x (List.mem_of_mem_eraseIdx hx)⟩, ?_⟩
      · rw [List.length_eraseIdx, if_pos hk]; omega
      · show ((ch.eraseIdx k).flatMap (itemsOfTree n) ++ (q.2 ++ itemsOfTree n q.1)).Perm ((ch.flatMap (itemsOfTree n)).filter _)
        rw [ef, List.eraseIdx_eq_take_drop_succ, List.flatMap_append, List.append_assoc]
        refine List.Perm.append_left _ ?_
        exact (List.perm_append_comm).trans (((List.perm_append_comm).trans ih.perm).append_right _)
    · rw [if_neg c2]
      have hq := ih.slim.full (by omega)
      refine ⟨⟨?_, fun x hx => ?_⟩, ?_⟩
      · rw [List.length_set]; omega
      · rcases List.mem_or_eq_of_mem_set hx with hx | hx
        · exact hf x hx
        · rw [hx]; exact hq
      · show ((ch.set k q.1).flatMap (itemsOfTree n) ++ q.2).Perm ((ch.flatMap (itemsOfTree n)).filter _)
        rw [ef, List.set_eq_take_append_cons_drop, if_pos hk, List.flatMap_append, List.flatMap_cons, List.append_assoc, List.append_assoc]
        refine List.Perm.append_left _ ?_
        refine List.Perm.trans ?_ (ih.perm.append_right _)
        rw [List.append_assoc]
        exact (List.perm_append_comm).append_left _
/-- what is left of the root: one child at least (no premise on the root's own number but two children) -/
structure RmvRoot (n : Nat) (t : Tree) (id : Nat) (q : Tree × List Item) : Prop where
  slim : Slim n q.1 ∨ q.1 = .leaf []
  perm : (itemsOfTree n q.1 ++ q.2).Perm ((itemsOfTree n t).filter fun it => it.id != id)
theorem rmv_root {n : Nat} {t : Tree} {id : Nat} (h : Root n t) (hn : ((itemsOfTree n t).map Item.id).Nodup) (hh : has n t id = true) : RmvRoot n t id (rmv n t id) := by
  cases n with
  | zero =>
    obtain ⟨items, rfl⟩ := h.bal.leaf
    rw [rmv_leaf]
    have e := filter_one (items := items) hn hh
    have h4 : items.length ≤ 4 := h
    refine ⟨?_, ?_⟩
    · cases e2 : items.filter (fun it => it.id != id) with
      | nil => exact .inr rfl
      | cons a r =>
        rw [e2] at e
        refine .inl ⟨by simp, ?_⟩
        simp only [List.length_cons] at *
        omega
    · show ((items.filter _) ++ []).Perm _
      rw [List.append_nil]
      exact List.Perm.refl _
  | succ n =>
    have hf : Full (n + 1) t := by
      cases t with
      | leaf items => exact h.elim
      | node ch => exact h
    have o := rmv_ok (n + 1) t id hf hn hh
    exact ⟨.inl o.slim, o.perm⟩
/-- the root lowered: its height index, the tree -/
def lowAt : Nat → Tree → Nat × Tree
  | n + 1, .node [c] => (n, c)
  | n, t => (n, t)
theorem shorten_eq {n : Nat} {t : Tree} (h : Slim n t ∨ t = .leaf []) (hn : n ≤ 14) : shorten fuel t = (lowAt n t).2 ∧ ∃ m, m ≤ n ∧ (lowAt n t).1 = m ∧ (Root m (lowAt n t).2 ∨ t = .leaf []) ∧ (t ≠ .leaf [] → itemsOfTree m (lowAt n t).2 = itemsOfTree n t) := by
  rcases h with h | rfl
  · cases n with
    | zero => cases t with
      | leaf items => exact ⟨rfl, 0, Nat.le_refl _, rfl, .inl h.2, fun _ => rfl⟩
      | node ch => exact h.elim
    | succ n => cases t with
      | leaf items => exact h.elim
      | node ch =>
        obtain ⟨⟨h1, h4⟩, hf⟩ := h
        rcases ch with _ | ⟨a, _ | ⟨b, r⟩⟩
        · simp at h1
        · have fa := hf a List.mem_cons_self
          refine ⟨?_, n, by omega, rfl, .inl fa.root, fun _ => ?_⟩
          · show shorten 15 a = a
            cases n with
            | zero => cases a with
              | leaf items => rfl
              | node ch => exact fa.elim
            | succ n => cases a with
              | leaf items => exact fa.elim
              | node ch =>
                have f2 := fa.1.1
                rcases ch with _ | ⟨x, _ | ⟨y, r⟩⟩
                · simp at f2
                · simp at f2
                · rfl
          · show itemsOfTree n a = [a].flatMap (itemsOfTree n)
            simp
        · exact ⟨rfl, n + 1, Nat.le_refl _, rfl, .inl ⟨⟨by simp, h4⟩, hf⟩, fun _ => rfl⟩
  · cases n <;> exact ⟨rfl, _, Nat.le_refl _, rfl, .inr rfl, fun h => absurd rfl h⟩
end BF
namespace BF
open Kvg6
/-! ### F. sorting by keys -/
def insK {α : Type} (key : α → List Int) (x : α) : List α → List α
  | [] => [x]
  | y :: l => if klt (key x) (key y) = true then x :: y :: l else y :: insK key x l
def sortK {α : Type} (key : α → List Int) (l : List α) : List α := l.foldl (fun s x => insK key x s) []
/-- in order of the keys -/
abbrev Ord {α : Type} (key : α → List Int) (l : List α) : Prop := l.Pairwise fun a b => klt (key b) (key a) = false
section
variable {α : Type} {key : α → List Int}
theorem insK_perm (x : α) : ∀ l : List α, (insK key x l).Perm (x :: l)
  | [] => List.Perm.refl _
  | y :: l => by
    rw [insK]; split
    · exact List.Perm.refl _
    · exact ((insK_perm x l).cons y).trans (List.Perm.swap _ _ _)
theorem foldK_perm : ∀ (l s : List α), (l.foldl (fun s x => insK key x s) s).Perm (s ++ l)
  | [], s => by simp
  | x :: l, s => by
    rw [List.foldl_cons]
    refine (foldK_perm l _).trans ?_
    refine ((insK_perm x s).append_right l).trans ?_
    have : (x :: s ++ l).Perm (s ++ x :: l) := List.perm_middle.symm
    exact this
theorem sortK_perm (l : List α) : (sortK key l).Perm l := by
  have h := foldK_perm (key := key) l []
  simpa [sortK] using h
theorem insK_ord {x : α} : ∀ {l : List α}, Ord key l → Ord key (insK key x l)
  | [], _ => by rw [insK]; exact List.pairwise_singleton _ _
  | y :: l, h => by
    obtain ⟨h1, h2⟩ := List.pairwise_cons.mp h
    rw [insK]; split
    · rename_i c
      refine List.pairwise_cons.mpr ⟨fun z hz => ?_, h⟩
      rcases List.mem_cons.mp hz with rfl | hz
      · exact klt_asymm c
      · exact klt_asymm (klt_neg c (h1 z hz))
    · rename_i c
      have c' : klt (key x) (key y) = false := by simpa using c
      refine List.pairwise_cons.mpr ⟨fun z hz => ?_, insK_ord h2⟩
      rcases List.mem_cons.mp ((insK_perm x l).mem_iff.mp hz) with rfl | hz
      · exact c'
      · exact h1 z hz
theorem foldK_ord : ∀ {l s : List α}, Ord key s → Ord key (l.foldl (fun s x => insK key x s) s)
  | [], _, h => h
  | x :: l, s, h => by rw [List.foldl_cons]; exact foldK_ord (insK_ord h)
theorem sortK_ord (l : List α) : Ord key (sortK key l) := foldK_ord List.Pairwise.nil
/-- two lists of the same things in order are one, where things of one key are one -/
theorem ord_inj : ∀ {l m : List α}, l.Perm m → Ord key l → Ord key m → (∀ a ∈ l, ∀ b ∈ l, key a = key b → a = b) → l = m
  | [], m, p, _, _, _ => by rw [List.nil_perm.mp p]
  | a :: l, [], p, _, _, _ => absurd (List.perm_nil.mp p) (by simp)
  | a :: l, b :: m, p, h1, h2, hn => by
    obtain ⟨g1, g2⟩ := List.pairwise_cons.mp h1
    obtain ⟨k1, k2⟩ := List.pairwise_cons.mp h2
    have hab : a = b := by
      have ha : a ∈ b :: m := p.mem_iff.mp List.mem_cons_self
      have hb : b ∈ a :: l := p.mem_iff.mpr List.mem_cons_self
      rcases List.mem_cons.mp ha with e | ha
      · exact e
      · rcases List.mem_cons.mp hb with e | hb
        · exact e.symm
        · have z1 := k1 a ha
          have z2 := g1 b hb
          have e : key a = key b := by
            rcases klt_total (key a) (key b) with z | z | z
            · rw [z1] at z; cases z
            · exact z
            · rw [z2] at z; cases z
          exact hn a List.mem_cons_self b (List.mem_cons_of_mem _ hb) e
    subst hab
    rw [ord_inj (List.Perm.cons_inv p) g2 k2 fun x hx y hy => hn x (List.mem_cons_of_mem _ hx) y (List.mem_cons_of_mem _ hy)]
theorem inj_of_nodup {l : List α} (hn : (l.map key).Nodup) : ∀ a ∈ l, ∀ b ∈ l, key a = key b → a = b := by
  induction l with
  | nil => exact fun a ha => nomatch ha
  | cons x l ih =>
    intro a ha b hb e
    rw [List.map_cons, List.nodup_cons] at hn
    rcases List.mem_cons.mp ha with ea | ha'
    · rcases List.mem_cons.mp hb with eb | hb'
      · rw [ea, eb]
      · exact (hn.1 (List.mem_map.mpr ⟨b, hb', by rw [← e, ea]⟩)).elim
    · rcases List.mem_cons.mp hb with eb | hb'
      · exact (hn.1 (List.mem_map.mpr ⟨a, ha', by rw [e, eb]⟩)).elim
      · exact ih hn.2 a ha' b hb' e
theorem ord_uniq {l m : List α} (p : l.Perm m) (h1 : Ord key l) (h2 : Ord key m) (hn : (l.map key).Nodup) : l = m := ord_inj p h1 h2 (inj_of_nodup hn)
theorem sortK_inj {l m : List α} (p : m.Perm l) (h : Ord key m) (hi : ∀ a b : α, key a = key b → a = b) : sortK key l = m :=
  ord_inj ((sortK_perm l).trans p.symm) (sortK_ord l) h fun a _ b _ => hi a b
theorem sortK_eq {l m : List α} (p : m.Perm l) (h : Ord key m) (hn : (l.map key).Nodup) : sortK key l = m := by
  have p2 := (sortK_perm (key := key) l).trans p.symm
  exact ord_uniq p2 (sortK_ord l) h ((sortK_perm l).map key |>.nodup_iff.mpr hn)
theorem sortK_congr {l m : List α} (p : m.Perm l) (hn : (l.map key).Nodup) : sortK key m = sortK key l :=
  (sortK_eq ((sortK_perm m).trans p) (sortK_ord m) hn).symm
end
theorem nodup_map_inj {α β : Type} {f : α → β} {l : List α} (hf : ∀ a b, f a = f b → a = b) (h : l.Nodup) : (l.map f).Nodup := by
  induction l with
  | nil => exact List.nodup_nil
  | cons a r ih =>
    obtain ⟨h1, h2⟩ := List.nodup_cons.mp h
    rw [List.map_cons]
    refine List.nodup_cons.mpr ⟨fun hm => ?_, ih h2⟩
    obtain ⟨b, hb, e⟩ := List.mem_map.mp hm
    exact h1 (hf _ _ e ▸ hb)
theorem klt_nat1 (a b : Nat) : klt [(a : Int)] [(b : Int)] = decide (a < b) := by
  rw [klt_one]
  exact decide_eq_decide.mpr Int.ofNat_lt
theorem klt_nat2 (a b c d : Nat) : klt [(a : Int), (b : Int)] [(c : Int), (d : Int)] = true ↔ a < c ∨ (a = c ∧ b < d) := by
  rw [klt_cons, klt_one]
  simp only [Bool.or_eq_true, decide_eq_true_eq, Bool.and_eq_true, beq_iff_eq]
  omega
abbrev idKey (it : Item) : List Int := [(it.id : Int)]
theorem insertById_eq (x : Item) : ∀ l, insertById x l = insK idKey x l
  | [] => rfl
  | y :: l => by
    rw [insertById, insK, insertById_eq x l]
    simp only [idKey, klt_nat1, decide_eq_true_eq]
theorem sortById_eq (l : List Item) : sortById l = sortK idKey l := by
  unfold sortById sortK
  congr 1
  funext s x
  exact insertById_eq x s
abbrev hKey (it : Item) : List Int := [(hilbertOf it.box : Int), (it.id : Int)]
theorem insertByHilbert_eq (x : Item) : ∀ l, insertByHilbert x l = insK hKey x l
  | [] => rfl
  | y :: l => by
    rw [insertByHilbert, insK, insertByHilbert_eq x l]
    by_cases c : hilbertOf x.box < hilbertOf y.box ∨ (hilbertOf x.box = hilbertOf y.box ∧ x.id < y.id)
    · rw [if_pos c, if_pos ((klt_nat2 _ _ _ _).mpr c)]
    · rw [if_neg c, if_neg (fun z => c ((klt_nat2 _ _ _ _).mp z))]
theorem sortByHilbert_eq (l : List Item) : sortByHilbert l = sortK hKey l := by
  unfold sortByHilbert sortK
  congr 1
  funext s x
  exact insertByHilbert_eq x s
abbrev pKey (q : Nat × Nat) : List Int := [(q.1 : Int), (q.2 : Int)]
theorem insertPair_eq (x : Nat × Nat) : ∀ l, insertPair x l = insK pKey x l
  | [] => rfl
  | y :: l => by
    rw [insertPair, insK, insertPair_eq x l]
    have e : pairBefore x y = klt (pKey x) (pKey y) := by
      rw [Bool.eq_iff_iff]
      rw [show klt (pKey x) (pKey y) = klt [(x.1 : Int), (x.2 : Int)] [(y.1 : Int), (y.2 : Int)] from rfl, klt_nat2]
      unfold pairBefore
      simp only [Bool.or_eq_true, decide_eq_true_eq, Bool.and_eq_true, beq_iff_eq]
    rw [e]
theorem sortPairs_eq (l : List (Nat × Nat)) : sortPairs l = sortK pKey l := by
  unfold sortPairs sortK
  congr 1
  funext s x
  exact insertPair_eq x s
abbrev nKey (x : Nat) : List Int := [(x : Int)]
theorem sortNumbers_ok : ∀ (l s : List Nat), Ord nKey s → Ord nKey (l.foldl (fun sorted x => (sorted.filter (· < x)) ++ [x] ++ sorted.filter (fun y => decide (x ≤ y))) s) ∧
    (l.foldl (fun sorted x => (sorted.filter (· < x)) ++ [x] ++ sorted.filter (fun y => decide (x ≤ y))) s).Perm (s ++ l)
  | [], s, h => ⟨h, by simp⟩
  | x :: l, s, h => by
    rw [List.foldl_cons]
    have h1 : Ord nKey ((s.filter (· < x)) ++ [x] ++ s.filter (fun y => decide (x ≤ y))) := by
      refine List.pairwise_append.mpr ⟨List.pairwise_append.mpr ⟨h.filter _, List.pairwise_singleton _ _, fun a ha b hb => ?_⟩, h.filter _, fun a ha b hb => ?_⟩
      · rw [List.mem_singleton.mp hb, klt_nat1]
        have := (List.mem_filter.mp ha).2
        simp only [decide_eq_true_eq] at this
        exact decide_eq_false (by omega)
      · have hb2 := (List.mem_filter.mp hb).2
        simp only [decide_eq_true_eq] at hb2
        rw [klt_nat1]
        refine decide_eq_false ?_
        rcases List.mem_append.mp ha with ha | ha
        · have := (List.mem_filter.mp ha).2
          simp only [decide_eq_true_eq] at this
          omega
        · rw [List.mem_singleton.mp ha]; omega
    have h2 : ((s.filter (· < x)) ++ [x] ++ s.filter (fun y => decide (x ≤ y))).Perm (s ++ [x]) := by
      have e : (fun y => decide (x ≤ y)) = fun y => !(decide (y < x)) := by
        funext y
        by_cases c : y < x
        · rw [decide_eq_true c, decide_eq_false (by omega)]; rfl
        · rw [decide_eq_false c, decide_eq_true (by omega)]; rfl
      rw [e, List.append_assoc]
      have p := List.filter_append_perm (fun y => decide (y < x)) s
      refine ((List.perm_append_comm (l₁ := [x])).append_left _).trans ?_
      rw [← List.append_assoc]
      exact p.append_right [x]
    obtain ⟨i1, i2⟩ := sortNumbers_ok l _ h1
    refine ⟨i1, i2.trans ?_⟩
    refine (h2.append_right l).trans ?_
    rw [List.append_assoc]
    exact List.Perm.refl _
theorem sortNumbers_perm (l : List Nat) : (sortNumbers l).Perm l := by
  have h := (sortNumbers_ok l [] List.Pairwise.nil).2
  simpa [sortNumbers] using h
theorem sortNumbers_ord (l : List Nat) : Ord nKey (sortNumbers l) := (sortNumbers_ok l [] List.Pairwise.nil).1
/-- whatever order the numbers came in -/
theorem sortNumbers_eq {l m : List Nat} (p : m.Perm l) (h : m.Pairwise (· ≤ ·)) : sortNumbers l = m := by
  have a := sortNumbers_ord l
  have b := (sortNumbers_perm l).trans p.symm
  have a' : (sortNumbers l).Pairwise (· ≤ ·) := a.imp fun {x y} h => by
    rw [klt_nat1] at h
    have := of_decide_eq_false h
    omega
  exact b.eq_of_pairwise (fun x y _ _ h1 h2 => Nat.le_antisymm h1 h2) a' h
end BF
namespace BF
open Kvg6
/-! ### G. good trees: insert, remove, bulk load -/
def BoxOk (b : Box) : Prop := (-1073741824 ≤ b.x0 ∧ b.x0 ≤ b.x1 ∧ b.x1 ≤ 1073741823) ∧ (-1073741824 ≤ b.y0 ∧ b.y0 ≤ b.y1 ∧ b.y1 ≤ 1073741823)
def ItOk (it : Item) : Prop := BoxOk it.box ∧ it.id ≤ 65535
abbrev ids (l : List Item) : List Nat := l.map Item.id
structure GoodAt (n : Nat) (t : Tree) : Prop where
  root : Root n t
  size : (itemsOfTree n t).length ≤ 48
  nodup : (ids (itemsOfTree n t)).Nodup
  ok : ∀ it ∈ itemsOfTree n t, ItOk it
theorem GoodAt.low {n : Nat} {t : Tree} (g : GoodAt n t) : n ≤ 4 := root_low g.root g.size
theorem GoodAt.items {n : Nat} {t : Tree} (g : GoodAt n t) : t.items = itemsOfTree n t := items_of g.root.bal (by have := g.low; omega)
theorem insert_good {n : Nat} {t : Tree} {it : Item} (g : GoodAt n t) (h : ItOk it) (hs : (itemsOfTree n t).length < 48) (hn : it.id ∉ ids (itemsOfTree n t)) :
    ∃ m, GoodAt m (Kvg6.insert t it) ∧ (itemsOfTree m (Kvg6.insert t it)).Perm (itemsOfTree n t ++ [it]) := by
  have hl := g.low
  rw [insert_eq g.root.bal (by omega)]
  obtain ⟨m, _, hr, hp⟩ := insAt_ok (it := it) g.root
  refine ⟨m, ⟨hr, ?_, ?_, fun x hx => ?_⟩, hp⟩
  · rw [hp.length_eq, List.length_append, List.length_singleton]; omega
  · rw [(hp.map Item.id).nodup_iff, List.map_append, List.nodup_append]
    refine ⟨g.nodup, by simp, fun a ha b hb => ?_⟩
    have : b = it.id := by simpa using hb
    subst this
    intro e
    exact hn (e ▸ ha)
  · rcases List.mem_append.mp (hp.mem_iff.mp hx) with hx | hx
    · exact g.ok x hx
    · rw [List.mem_singleton.mp hx]; exact h
theorem inserts_good : ∀ (l : List Item) {n : Nat} {t : Tree}, GoodAt n t → (∀ it ∈ l, ItOk it) → (itemsOfTree n t).length + l.length ≤ 48 → (ids (itemsOfTree n t ++ l)).Nodup →
    ∃ m, GoodAt m (l.foldl Kvg6.insert t) ∧ (itemsOfTree m (l.foldl Kvg6.insert t)).Perm (itemsOfTree n t ++ l)
  | [], n, t, g, _, _, _ => ⟨n, g, by simp⟩
  | x :: l, n, t, g, h, hs, hn => by
    have hn' : (ids (itemsOfTree n t) ++ ids (x :: l)).Nodup := by rw [← List.map_append]; exact hn
    obtain ⟨_, h2, h3⟩ := List.nodup_append.mp hn'
    have hx : x.id ∉ ids (itemsOfTree n t) := fun z => h3 _ z x.id List.mem_cons_self rfl
    rw [List.length_cons] at hs
    obtain ⟨m, g1, p1⟩ := insert_good g (h x List.mem_cons_self) (by omega) hx
    have p2 : (itemsOfTree m (Kvg6.insert t x) ++ l).Perm (itemsOfTree n t ++ x :: l) := by
      refine (p1.append_right l).trans ?_
      rw [List.append_assoc]; exact List.Perm.refl _
    obtain ⟨m2, g2, p3⟩ := inserts_good l g1 (fun it hi => h it (List.mem_cons_of_mem _ hi)) (by rw [p1.length_eq, List.length_append, List.length_singleton]; omega) ((p2.map Item.id).nodup_iff.mpr hn)
    exact ⟨m2, g2, p3.trans p2⟩
/-- what a removal leaves ahead of the orphans' insertion -/
structure CutOk (n : Nat) (t : Tree) (id : Nat) (m : Nat) (s : Tree) (orph : List Item) : Prop where
  good : GoodAt m s
  perm : (itemsOfTree m s ++ orph).Perm ((itemsOfTree n t).filter fun it => it.id != id)
theorem empty_good : GoodAt 0 (.leaf []) := ⟨Nat.zero_le _, Nat.zero_le _, List.nodup_nil, fun _ h => nomatch h⟩
theorem cut_ok {n : Nat} {t : Tree} {id : Nat} (g : GoodAt n t) (hh : has n t id = true) : ∃ m, CutOk n t id m (shorten fuel (rmv n t id).1) (rmv n t id).2 := by
  have o := rmv_root g.root g.nodup hh
  have hl := g.low
  obtain ⟨e, m, hm, e1, hr, hi⟩ := shorten_eq o.slim (by omega)
  have hsub : ∀ it ∈ (itemsOfTree n t).filter (fun it => it.id != id), it ∈ itemsOfTree n t := fun it h => (List.mem_filter.mp h).1
  by_cases c : (rmv n t id).1 = .leaf []
  · refine ⟨0, ?_, ?_⟩
    · rw [c]; exact empty_good
    · have p := o.perm
      rw [c] at p ⊢
      have e0 : itemsOfTree n (.leaf []) = [] := by cases n <;> rfl
      rw [e0] at p
      exact p
  · have hi := hi c
    have hr := hr.resolve_right c
    rw [e]
    have p : (itemsOfTree m (lowAt n (rmv n t id).1).2 ++ (rmv n t id).2).Perm ((itemsOfTree n t).filter fun it => it.id != id) := by rw [hi]; exact o.perm
    refine ⟨m, ⟨hr, ?_, ?_, fun it h => ?_⟩, p⟩
    · have h1 := p.length_eq
      rw [List.length_append] at h1
      have h2 := List.length_filter_le (fun it : Item => it.id != id) (itemsOfTree n t)
      have := g.size
      omega
    · have h1 : (ids ((itemsOfTree n t).filter fun it => it.id != id)).Nodup := (List.filter_sublist.map Item.id).nodup g.nodup
      have h2 := (p.map Item.id).nodup_iff.mpr h1
      rw [List.map_append] at h2
      exact (List.nodup_append.mp h2).1
    · exact g.ok it (hsub it (p.mem_iff.mp (List.mem_append_left _ h)))
theorem remove_eq {n : Nat} {t : Tree} {id : Nat} (g : GoodAt n t) (hh : has n t id = true) : remove t id = (sortById (rmv n t id).2).foldl Kvg6.insert (shorten fuel (rmv n t id).1) := by
  have hl := g.low
  unfold remove
  rw [rm_some n t id g.root.bal hh (by omega) fuel (by unfold fuel; omega)]
theorem cut_room {n : Nat} {t : Tree} {id m : Nat} {s : Tree} {orph : List Item} (g : GoodAt n t) (c : CutOk n t id m s orph) : (∀ it ∈ orph, ItOk it) ∧ (itemsOfTree m s).length + orph.length ≤ 48 ∧ (ids (itemsOfTree m s ++ orph)).Nodup := by
  have p := c.perm
  refine ⟨fun it h => g.ok it (List.mem_filter.mp (p.mem_iff.mp (List.mem_append_right _ h))).1, ?_, ?_⟩
  · have h1 := p.length_eq
    rw [List.length_append] at h1
    have h2 := List.length_filter_le (fun it : Item => it.id != id) (itemsOfTree n t)
    have := g.size
    omega
  · have h1 : (ids ((itemsOfTree n t).filter fun it => it.id != id)).Nodup := (List.filter_sublist.map Item.id).nodup g.nodup
    exact (p.map Item.id).nodup_iff.mpr h1
theorem remove_good {n : Nat} {t : Tree} {id : Nat} (g : GoodAt n t) (hh : has n t id = true) : ∃ m, GoodAt m (remove t id) ∧ (itemsOfTree m (remove t id)).Perm ((itemsOfTree n t).filter fun it => it.id != id) := by
  rw [remove_eq g hh]
  obtain ⟨m, c⟩ := cut_ok g hh
  obtain ⟨r1, r2, r3⟩ := cut_room g c
  have ps : (sortById (rmv n t id).2).Perm (rmv n t id).2 := by rw [sortById_eq]; exact sortK_perm _
  obtain ⟨k, g2, p2⟩ := inserts_good (sortById (rmv n t id).2) c.good (fun it h => r1 it (ps.mem_iff.mp h)) (by rw [ps.length_eq]; exact r2) (((ps.append_left _).map Item.id).nodup_iff.mpr r3)
  exact ⟨k, g2, p2.trans ((ps.append_left _).trans c.perm)⟩
theorem remove_len {n : Nat} {t : Tree} {id : Nat} (g : GoodAt n t) (hh : has n t id = true) : (remove t id).items.length = t.items.length - 1 := by
  obtain ⟨m, g2, p⟩ := remove_good g hh
  have e := filter_one g.nodup hh
  rw [g2.items, g.items, p.length_eq]
  omega

/-! bulk loading -/
section
variable {α : Type}
theorem chunks_small (f : Nat) {l : List α} (h : l.length ≤ 4) : chunks f l = [l] := by
  cases f with
  | zero => rfl
  | succ f => rw [chunks, if_pos (show l.length ≤ maxEntries from h)]
theorem chunks_five (f g : Nat) {l : List α} (h : l.length = 5) : chunks (f + 1) l = l.take 3 :: chunks g (l.drop 3) := by
  rw [chunks, if_neg (show ¬ l.length ≤ maxEntries by unfold maxEntries; omega), if_pos (show l.length = maxEntries + 1 from h), chunks_small g (by rw [List.length_drop]; omega)]
theorem chunks_more (f : Nat) {l : List α} (h : 5 < l.length) : chunks (f + 1) l = l.take 4 :: chunks f (l.drop 4) := by
  rw [chunks, if_neg (show ¬ l.length ≤ maxEntries by unfold maxEntries; omega), if_neg (show ¬ l.length = maxEntries + 1 by unfold maxEntries; omega)]
  rfl
structure ChunksOk (l : List α) (c : List (List α)) : Prop where
  flat : c.flatten = l
  few : ∀ g ∈ c, g.length ≤ 4
  many : 2 ≤ l.length → ∀ g ∈ c, 2 ≤ g.length
  count : 4 * c.length ≤ l.length + 4
  pos : 1 ≤ c.length
  less : 2 ≤ l.length → 2 * c.length ≤ l.length
theorem chunks_ok : ∀ (f : Nat) (l : List α), l.length ≤ f → ChunksOk l (chunks f l)
  | f, l, h => by
    by_cases h4 : l.length ≤ 4
    · rw [chunks_small f h4]
      exact ⟨by simp, fun g hg => by rw [List.mem_singleton.mp hg]; exact h4, fun h2 g hg => by rw [List.mem_singleton.mp hg]; exact h2, by simp, by simp, fun h2 => by simpa using h2⟩
    · cases f with
      | zero => omega
      | succ f =>
        by_cases h5 : l.length = 5
        · rw [chunks_five f 0 h5, chunks_small 0 (by rw [List.length_drop]; omega)]
          refine ⟨by simp, fun g hg => ?_, fun _ g hg => ?_, by simp [h5], by simp, fun _ => by simp [h5]⟩
          · rcases List.mem_cons.mp hg with rfl | hg
            · rw [List.length_take]; omega
            · rw [List.mem_singleton.mp hg, List.length_drop]; omega
          · rcases List.mem_cons.mp hg with rfl | hg
            · rw [List.length_take]; omega
            · rw [List.mem_singleton.mp hg, List.length_drop]; omega
        · rw [chunks_more f (by omega)]
          have ld : (l.drop 4).length = l.length - 4 := List.length_drop
          have ih := chunks_ok f (l.drop 4) (by omega)
          refine ⟨by rw [List.flatten_cons, ih.flat, List.take_append_drop], fun g hg => ?_, fun _ g hg => ?_, ?_, by simp, fun _ => ?_⟩
          · rcases List.mem_cons.mp hg with rfl | hg
            · rw [List.length_take]; omega
            · exact ih.few g hg
          · rcases List.mem_cons.mp hg with rfl | hg
            · rw [List.length_take]; omega
            · exact ih.many (by omega) g hg
          · have := ih.count
            rw [List.length_cons]; omega
          · have := ih.less (by omega)
            rw [List.length_cons]; omega
end
theorem build_one (f : Nat) (t : Tree) : build f [t] = t := by cases f <;> rfl
theorem build_more (f : Nat) {l : List Tree} (h : 2 ≤ l.length) : build (f + 1) l = build f ((chunks l.length l).map Tree.node) := by
  rcases l with _ | ⟨a, _ | ⟨b, r⟩⟩
  · simp at h
  · simp at h
  · rfl
/-- a level of a tree that is loaded: one root, or several full nodes -/
def Level (k : Nat) (ts : List Tree) : Prop := (∃ t, ts = [t] ∧ Root k t) ∨ (2 ≤ ts.length ∧ ∀ c ∈ ts, Full k c)
theorem level_up {k : Nat} {ts : List Tree} (h2 : 2 ≤ ts.length) (hf : ∀ c ∈ ts, Full k c) : Level (k + 1) ((chunks ts.length ts).map Tree.node) ∧ ((chunks ts.length ts).map Tree.node).flatMap (itemsOfTree (k + 1)) = ts.flatMap (itemsOfTree k) ∧
    2 * ((chunks ts.length ts).map Tree.node).length ≤ ts.length ∧ 1 ≤ ((chunks ts.length ts).map Tree.node).length := by
  have c := chunks_ok ts.length ts (Nat.le_refl _)
  have hall : ∀ x ∈ (chunks ts.length ts).map Tree.node, Full (k + 1) x := fun x hx => by
    obtain ⟨g, hg, rfl⟩ := List.mem_map.mp hx
    refine ⟨⟨c.many h2 g hg, c.few g hg⟩, fun y hy => hf y ?_⟩
    rw [← c.flat]
    exact List.mem_flatten.mpr ⟨g, hg, hy⟩
  refine ⟨?_, ?_, by rw [List.length_map]; exact c.less h2, by rw [List.length_map]; exact c.pos⟩
  · by_cases h1 : ((chunks ts.length ts).map Tree.node).length = 1
    · obtain ⟨a, ha⟩ := List.length_eq_one_iff.mp h1
      exact .inl ⟨a, ha, (hall a (by rw [ha]; exact List.mem_singleton_self _)).root⟩
    · have := c.pos
      rw [List.length_map] at h1
      exact .inr ⟨by rw [List.length_map]; omega, hall⟩
  · conv => rhs; rw [← c.flat]
    rw [List.flatMap_map]
    generalize chunks ts.length ts = cs
    induction cs with
    | nil => rfl
    | cons g r ih =>
      rw [List.flatMap_cons, List.flatten_cons, List.flatMap_append, ih]
      rfl
theorem build_ok : ∀ (f : Nat) (ts : List Tree) (k : Nat), ts.length ≤ f + 1 → Level k ts → ∃ m, Root m (build f ts) ∧ itemsOfTree m (build f ts) = ts.flatMap (itemsOfTree k)
  | f, ts, k, hl, .inl ⟨t, e, hr⟩ => by
    subst e
    rw [build_one]
    exact ⟨k, hr, by simp⟩
  | 0, ts, k, hl, .inr ⟨h2, _⟩ => absurd hl (by omega)
  | f + 1, ts, k, hl, .inr ⟨h2, hf⟩ => by
    rw [build_more f h2]
    obtain ⟨l1, l2, l3, l4⟩ := level_up h2 hf
    obtain ⟨m, r1, r2⟩ := build_ok f _ (k + 1) (by omega) l1
    exact ⟨m, r1, r2.trans l2⟩
/-- the leaves -/
def leaves (items : List Item) : List Tree := (chunks items.length (sortByHilbert items)).map Tree.leaf
theorem leaves_ok (items : List Item) : Level 0 (leaves items) ∧ (leaves items).flatMap (itemsOfTree 0) = sortByHilbert items ∧ 4 * (leaves items).length ≤ items.length + 4 ∧ 1 ≤ (leaves items).length := by
  have hl : (sortByHilbert items).length = items.length := by rw [sortByHilbert_eq]; exact (sortK_perm items).length_eq
  have c := chunks_ok items.length (sortByHilbert items) (by omega)
  unfold leaves
  refine ⟨?_, ?_, by rw [List.length_map]; have := c.count; omega, by rw [List.length_map]; exact c.pos⟩
  · by_cases h1 : ((chunks items.length (sortByHilbert items)).map Tree.leaf).length = 1
    · obtain ⟨a, ha⟩ := List.length_eq_one_iff.mp h1
      have hm : a ∈ (chunks items.length (sortByHilbert items)).map Tree.leaf := by rw [ha]; exact List.mem_singleton_self _
      obtain ⟨g, hg, rfl⟩ := List.mem_map.mp hm
      exact .inl ⟨_, ha, c.few g hg⟩
    · have h3 := c.pos
      rw [List.length_map] at h1
      have h5 : 2 ≤ (sortByHilbert items).length := by
        have h6 := c.flat
        by_cases h7 : (sortByHilbert items).length ≤ 4
        · rw [chunks_small _ h7] at h1; simp at h1
        · omega
      refine .inr ⟨by rw [List.length_map]; omega, fun x hx => ?_⟩
      obtain ⟨g, hg, rfl⟩ := List.mem_map.mp hx
      exact ⟨c.many h5 g hg, c.few g hg⟩
  · conv => rhs; rw [← c.flat]
    rw [List.flatMap_map]
    generalize chunks items.length (sortByHilbert items) = cs
    induction cs with
    | nil => rfl
    | cons g r ih => rw [List.flatMap_cons, List.flatten_cons, ih]; rfl
theorem bulk_eq (items : List Item) : bulkLoad items = build 16 (leaves items) := by
  unfold bulkLoad leaves
  cases items with
  | nil => rfl
  | cons a r => rfl
theorem bulk_good {items : List Item} (h : ∀ it ∈ items, ItOk it) (hs : items.length ≤ 48) (hn : (ids items).Nodup) : ∃ m, GoodAt m (bulkLoad items) ∧ (itemsOfTree m (bulkLoad items)).Perm items := by
  obtain ⟨l1, l2, l3, l4⟩ := leaves_ok items
  obtain ⟨m, r1, r2⟩ := build_ok 16 (leaves items) 0 (by omega) l1
  have p : (itemsOfTree m (bulkLoad items)).Perm items := by
    rw [bulk_eq, r2, l2, sortByHilbert_eq]; exact sortK_perm items
  exact ⟨m, ⟨by rw [bulk_eq]; exact r1, by rw [p.length_eq]; exact hs, (p.map Item.id).nodup_iff.mpr hn, fun it hi => h it (p.mem_iff.mp hi)⟩, p⟩
end BF
namespace BF
open Kvg6
/-! ### H. the Hilbert curve, turn by turn -/
def qOf (x y h : Int) : Int × Int × Int := if x < h then (if y < h then (0, y, x) else (1, x, y - h)) else if y < h then (3, h - 1 - y, 2 * h - 1 - x) else (2, x - h, y - h)
theorem hil_step (n : Nat) {x y : Int} (hx : 0 ≤ x ∧ x < 2 ^ (n + 1)) (hy : 0 ≤ y ∧ y < 2 ^ (n + 1)) :
    (0 ≤ (qOf x y (2 ^ n)).2.1 ∧ (qOf x y (2 ^ n)).2.1 < 2 ^ n) ∧ (0 ≤ (qOf x y (2 ^ n)).2.2 ∧ (qOf x y (2 ^ n)).2.2 < 2 ^ n) ∧ (0 ≤ (qOf x y (2 ^ n)).1 ∧ (qOf x y (2 ^ n)).1 ≤ 3) ∧
      (hilbert (n + 1) x.toNat y.toNat : Int) = (qOf x y (2 ^ n)).1 * 2 ^ n * 2 ^ n + hilbert n (qOf x y (2 ^ n)).2.1.toNat (qOf x y (2 ^ n)).2.2.toNat := by
  obtain ⟨a, rfl⟩ := Int.eq_ofNat_of_zero_le hx.1
  obtain ⟨b, rfl⟩ := Int.eq_ofNat_of_zero_le hy.1
  have e2 : (2 : Int) ^ (n + 1) = 2 * 2 ^ n := by rw [Int.pow_succ]; omega
  have es : (2 : Int) ^ n = ((2 ^ n : Nat) : Int) := by simp
  rw [e2, es] at hx hy
  rw [es, hilbert]
  have hs : 0 < 2 ^ n := Nat.two_pow_pos n
  generalize 2 ^ n = s at *
  unfold qOf
  have ta : ((a : Int)).toNat = a := Int.toNat_natCast a
  have tb : ((b : Int)).toNat = b := Int.toNat_natCast b
  rw [ta, tb]
  have hx2 : a < 2 * s := by omega
  have hy2 : b < 2 * s := by omega
  by_cases c1 : a < s
  · rw [if_pos c1, if_pos (show (a : Int) < s by omega)]
    by_cases c2 : b < s
    · rw [if_pos c2, if_pos (show (b : Int) < s by omega)]
      refine ⟨by dsimp only; omega, by dsimp only; omega, by dsimp only; omega, ?_⟩
      dsimp only
      rw [ta, tb]; simp
    · rw [if_neg c2, if_neg (show ¬ (b : Int) < s by omega)]
      refine ⟨by dsimp only; omega, by dsimp only; omega, by dsimp only; omega, ?_⟩
      dsimp only
      rw [ta, show ((b : Int) - s).toNat = b - s by omega]
      simp
  · rw [if_neg c1, if_neg (show ¬ (a : Int) < s by omega)]
    by_cases c2 : s ≤ b
    · rw [if_pos c2, if_neg (show ¬ (b : Int) < s by omega)]
      refine ⟨by dsimp only; omega, by dsimp only; omega, by dsimp only; omega, ?_⟩
      dsimp only
      rw [show ((a : Int) - s).toNat = a - s by omega, show ((b : Int) - s).toNat = b - s by omega]
      rw [Int.natCast_add, Int.natCast_mul, Int.natCast_mul, Int.mul_assoc]; rfl
    · rw [if_neg c2, if_pos (show (b : Int) < s by omega)]
      refine ⟨by dsimp only; omega, by dsimp only; omega, by dsimp only; omega, ?_⟩
      dsimp only
      rw [show ((s : Int) - 1 - b).toNat = s - 1 - b by omega, show (2 * (s : Int) - 1 - a).toNat = 2 * s - 1 - a by omega]
      rw [Int.natCast_add, Int.natCast_mul, Int.natCast_mul, Int.mul_assoc]; rfl
/-- the loop's state behind i turns: what is to come is the curve's rest -/
structure HilAt (i : Nat) (x y found half : Int) (target : Int) : Prop where
  half : half = if i < 32 then 2 ^ (31 - i) else 0
  bx : 0 ≤ x ∧ x < 2 ^ (32 - i)
  bby : 0 ≤ y ∧ y < 2 ^ (32 - i)
  eq : found + hilbert (32 - i) x.toNat y.toNat = target
theorem HilAt.start {x y : Int} (hx : 0 ≤ x ∧ x < 2 ^ 32) (hy : 0 ≤ y ∧ y < 2 ^ 32) : HilAt 0 x y 0 (2 ^ 31) (hilbert 32 x.toNat y.toNat) :=
  ⟨rfl, hx, hy, by simp⟩
theorem HilAt.step {i : Nat} {x y found half target : Int} (h : HilAt i x y found half target) (hi : i < 32) :
    HilAt (i + 1) (qOf x y half).2.1 (qOf x y half).2.2 (found + (qOf x y half).1 * half * half) (half / 2) target ∧ (0 ≤ (qOf x y half).1 ∧ (qOf x y half).1 ≤ 3) ∧ (1 ≤ half ∧ half ≤ 2147483648) := by
  obtain ⟨h1, h2, h3, h4⟩ := h
  rw [if_pos hi] at h1
  have e : 32 - i = (31 - i) + 1 := by omega
  rw [e] at h2 h3 h4
  obtain ⟨s1, s2, s3, s4⟩ := hil_step (31 - i) h2 h3
  subst h1
  have e32 : 32 - (i + 1) = 31 - i := by omega
  have hb : (2 : Int) ^ (31 - i) ≤ 2 ^ 31 := by
    have := Nat.pow_le_pow_right (n := 2) (by omega) (show 31 - i ≤ 31 by omega)
    have h' : ((2 ^ (31 - i) : Nat) : Int) ≤ ((2 ^ 31 : Nat) : Int) := Int.ofNat_le.mpr this
    simpa using h'
  have hp : (1 : Int) ≤ 2 ^ (31 - i) := by
    have := Nat.two_pow_pos (31 - i)
    have h' : ((1 : Nat) : Int) ≤ ((2 ^ (31 - i) : Nat) : Int) := Int.ofNat_le.mpr this
    simpa using h'
  refine ⟨⟨?_, by rw [e32]; exact s1, by rw [e32]; exact s2, ?_⟩, s3, hp, by simpa using hb⟩
  · by_cases c : i + 1 < 32
    · rw [if_pos c]
      have e3 : 31 - i = (31 - (i + 1)) + 1 := by omega
      rw [e3, Int.pow_succ, Int.mul_ediv_cancel _ (by decide)]
    · have : i = 31 := by omega
      subst this
      rfl
  · rw [e32, ← h4, s4]
    omega
theorem HilAt.done {x y found half target : Int} (h : HilAt 32 x y found half target) : found = target := by
  have := h.eq
  simpa [hilbert] using this
theorem hilbertOf_eq {b : Box} : hilbertOf b = hilbert 32 (b.x0 + b.x1 + 2 ^ 31).toNat (b.y0 + b.y1 + 2 ^ 31).toNat := rfl
theorem hil_start {b : Box} (h : BoxOk b) : HilAt 0 (b.x0 + b.x1 + 2 ^ 31) (b.y0 + b.y1 + 2 ^ 31) 0 (2 ^ 31) (hilbertOf b : Int) := by
  obtain ⟨⟨h1, h2, h3⟩, h4, h5, h6⟩ := h
  exact HilAt.start ⟨by omega, by omega⟩ ⟨by omega, by omega⟩

/-! ### searches: breadth first, whatever is searched -/
/-- a list of things to do, k done; n is what all come to, outs what they give -/
structure Bfs {α β : Type} (cnt : α → Nat) (out : α → List β) (N : Nat) (tot : List β) (xs : List α) (k : Nat) (found : List β) : Prop where
  le : k ≤ xs.length
  sum : k + ((xs.drop k).map cnt).sum = N
  perm : (found ++ (xs.drop k).flatMap out).Perm tot
section
variable {α β : Type} {cnt : α → Nat} {out : α → List β} {N : Nat} {tot : List β} {xs : List α} {k : Nat} {found : List β}
theorem Bfs.start (x : α) : Bfs cnt out (cnt x) (out x) [x] 0 [] := ⟨by simp, by simp, by simp⟩
/-- the next one gives z and more to do -/
theorem Bfs.step (h : Bfs cnt out N tot xs k found) {x : α} (hx : xs[k]? = some x) {kids : List α} {z : List β} (hc : cnt x = 1 + (kids.map cnt).sum) (ho : (z ++ kids.flatMap out).Perm (out x)) : Bfs cnt out N tot (xs ++ kids) (k + 1) (found ++ z) := by
  obtain ⟨hk, e⟩ := List.getElem?_eq_some_iff.mp hx
  have ed : xs.drop k = x :: xs.drop (k + 1) := by rw [List.drop_eq_getElem_cons hk, e]
  have ed2 : (xs ++ kids).drop (k + 1) = xs.drop (k + 1) ++ kids := by rw [List.drop_append_of_le_length (by omega)]
  refine ⟨by rw [List.length_append]; omega, ?_, ?_⟩
  · rw [ed2, ← h.sum, ed, List.map_append, List.sum_append, List.map_cons, List.sum_cons, hc]; omega
  · rw [ed2]
    refine List.Perm.trans ?_ h.perm
    rw [ed, List.flatMap_append, List.flatMap_cons, List.append_assoc]
    refine List.Perm.append_left _ ?_
    refine List.Perm.trans ?_ (ho.append_right _)
    rw [List.append_assoc]
    exact (List.perm_append_comm).append_left _
theorem Bfs.done (h : Bfs cnt out N tot xs k found) (hk : k = xs.length) : xs.length = N ∧ found.Perm tot := by
  subst hk
  have h1 := h.sum
  have h2 := h.perm
  rw [List.drop_length] at h1 h2
  simp at h1 h2
  exact ⟨h1, h2⟩
theorem sum_ge {f : α → Nat} (hf : ∀ x, 1 ≤ f x) : ∀ l : List α, l.length ≤ (l.map f).sum
  | [] => by simp
  | a :: l => by
    have := sum_ge hf l
    have := hf a
    rw [List.length_cons, List.map_cons, List.sum_cons]; omega
theorem Bfs.len (h : Bfs cnt out N tot xs k found) (hf : ∀ x, 1 ≤ cnt x) : xs.length ≤ N := by
  have h1 := h.sum
  have h2 := sum_ge hf (xs.drop k)
  rw [List.length_drop] at h2
  have := h.le
  omega
theorem Bfs.out_len (h : Bfs cnt out N tot xs k found) : found.length ≤ tot.length := by
  have := h.perm.length_eq
  rw [List.length_append] at this
  omega
end

/-! window search -/
theorem fold_pair {α β : Type} (f : α → Nat × List β) : ∀ (l : List α) (s : Nat × List β), l.foldl (fun s c => (s.1 + (f c).1, s.2 ++ (f c).2)) s = (s.1 + (l.map fun c => (f c).1).sum, s.2 ++ l.flatMap fun c => (f c).2)
  | [], s => by simp
  | a :: l, s => by
    rw [List.foldl_cons, fold_pair f l, List.map_cons, List.sum_cons, List.flatMap_cons]
    simp only [Nat.add_assoc, List.append_assoc]
theorem srch_leaf (w : Box) (n : Nat) (items : List Item) : searchIn w n (.leaf items) = (1, items.filter fun it => intersects it.box w) := by
  cases n <;> rfl
theorem srch_node (w : Box) (n : Nat) (ch : List Tree) : searchIn w (n + 1) (.node ch) =
    (1 + ((ch.filter fun (c : Tree) => intersects c.box w).map fun c => (searchIn w n c).1).sum, (ch.filter fun (c : Tree) => intersects c.box w).flatMap fun c => (searchIn w n c).2) := by
  have h := fold_pair (searchIn w n) (ch.filter fun (c : Tree) => intersects c.box w) (1, [])
  rw [searchIn]
  rw [h]
  simp
theorem srch_fuel (w : Box) : ∀ (k : Nat) (t : Tree), Bal k t → ∀ m n, k ≤ m → k ≤ n → searchIn w m t = searchIn w n t
  | 0, t, h, m, n, _, _ => by
    obtain ⟨items, rfl⟩ := h.leaf
    rw [srch_leaf, srch_leaf]
  | k + 1, t, h, m, n, hm, hn => by
    obtain ⟨ch, rfl, hc⟩ := h.node
    cases m with
    | zero => omega
    | succ m =>
      cases n with
      | zero => omega
      | succ n =>
        rw [srch_node, srch_node]
        have e : ∀ c ∈ ch.filter (fun (c : Tree) => intersects c.box w), searchIn w m c = searchIn w n c := fun c hcm => srch_fuel w k c (hc c (List.mem_filter.mp hcm).1) m n (by omega) (by omega)
        congr 1
        · congr 2
          exact List.map_congr_left fun c hcm => by rw [e c hcm]
        · unfold List.flatMap
          congr 1
          exact List.map_congr_left fun c hcm => by rw [e c hcm]
/-- a node with its height index -/
abbrev LT := Nat × Tree
abbrev sCnt (w : Box) (x : LT) : Nat := (searchIn w x.1 x.2).1
abbrev sOut (w : Box) (x : LT) : List Item := (searchIn w x.1 x.2).2
theorem sCnt_pos (w : Box) (x : LT) : 1 ≤ sCnt w x := by
  obtain ⟨n, t⟩ := x
  cases t with
  | leaf items => show 1 ≤ (searchIn w n (.leaf items)).1; rw [srch_leaf]; exact Nat.le_refl _
  | node ch =>
    cases n with
    | zero => exact Nat.le_refl 1
    | succ n => show 1 ≤ (searchIn w (n + 1) (.node ch)).1; rw [srch_node]; dsimp only; omega
theorem sStep_leaf {w : Box} {N : Nat} {tot : List Item} {xs : List LT} {k n : Nat} {found items : List Item} (h : Bfs (sCnt w) (sOut w) N tot xs k found) (hx : xs[k]? = some (n, .leaf items)) :
    Bfs (sCnt w) (sOut w) N tot xs (k + 1) (found ++ items.filter fun it => intersects it.box w) := by
  have := h.step hx (kids := []) (z := items.filter fun it => intersects it.box w) (by show (searchIn w n (.leaf items)).1 = _; rw [srch_leaf]; rfl) (by show (_ ++ []).Perm (searchIn w n (.leaf items)).2; rw [srch_leaf, List.append_nil])
  rwa [List.append_nil] at this
theorem sStep_node {w : Box} {N : Nat} {tot : List Item} {xs : List LT} {k n : Nat} {found : List Item} {ch : List Tree} (h : Bfs (sCnt w) (sOut w) N tot xs k found) (hx : xs[k]? = some (n + 1, .node ch)) :
    Bfs (sCnt w) (sOut w) N tot (xs ++ (ch.filter fun (c : Tree) => intersects c.box w).map fun c => (n, c)) (k + 1) found := by
  have := h.step hx (kids := (ch.filter fun (c : Tree) => intersects c.box w).map fun c => (n, c)) (z := []) ?_ ?_
  · rwa [List.append_nil] at this
  · show (searchIn w (n + 1) (.node ch)).1 = _
    rw [srch_node, List.map_map]
    rfl
  · show ([] ++ ((ch.filter fun (c : Tree) => intersects c.box w).map fun c => ((n, c) : LT)).flatMap (sOut w)).Perm (searchIn w (n + 1) (.node ch)).2
    rw [srch_node, List.flatMap_map, List.nil_append]
/-- how many are visited: few -/
theorem sCnt_le (w : Box) : ∀ (n : Nat) (t : Tree), Full n t → (searchIn w n t).1 + 1 ≤ (itemsOfTree n t).length
  | 0, t, h => by
    obtain ⟨items, rfl⟩ := h.bal.leaf
    rw [srch_leaf]; exact h.1
  | n + 1, t, h => by
    obtain ⟨ch, rfl, _⟩ := h.bal.node
    obtain ⟨⟨h2, _⟩, hf⟩ := h
    rw [srch_node]
    show 1 + _ + 1 ≤ (ch.flatMap (itemsOfTree n)).length
    have key : ∀ (l : List Tree), (∀ c ∈ l, Full n c) → ((l.filter fun (c : Tree) => intersects c.box w).map fun c => (searchIn w n c).1).sum + l.length ≤ (l.flatMap (itemsOfTree n)).length := by
      intro l hl
      induction l with
      | nil => simp
      | cons a r ih =>
        have ih := ih fun c hc => hl c (List.mem_cons_of_mem _ hc)
        have ha := sCnt_le w n a (hl a List.mem_cons_self)
        rw [List.flatMap_cons, List.length_append, List.filter_cons]
        split
        · rw [List.map_cons, List.sum_cons, List.length_cons]; omega
        · rw [List.length_cons]; omega
    have := key ch hf
    omega
theorem sCnt_root (w : Box) {n : Nat} {t : Tree} (h : Root n t) : (searchIn w n t).1 ≤ (itemsOfTree n t).length + 1 := by
  cases n with
  | zero =>
    obtain ⟨items, rfl⟩ := h.bal.leaf
    rw [srch_leaf]; show 1 ≤ _; omega
  | succ n =>
    have : Full (n + 1) t := by
      cases t with
      | leaf items => exact h.elim
      | node ch => exact h
    have := sCnt_le w _ _ this
    omega
theorem search_eq {n : Nat} {t : Tree} (g : GoodAt n t) (w : Box) : search t w = searchIn w n t := srch_fuel w n t g.root.bal fuel n (by have := g.low; unfold fuel; omega) (Nat.le_refl _)
end BF
namespace BF
open Kvg6
/-! ### I. joins -/
/-- the children of a node; a leaf by itself -/
def partsL : LT → List LT
  | (n, .leaf items) => [(n, .leaf items)]
  | (n, .node ch) => ch.map fun c => (n - 1, c)
abbrev JP := LT × LT
/-- the pairs of both lists under a condition -/
def nearL {α : Type} (cond : Box → Box → Bool) (box : α → Box) (l m : List α) : List (α × α) := l.flatMap fun x => (m.filter fun y => cond (box x) (box y)).map fun y => (x, y)
abbrev ltBox (x : LT) : Box := x.2.box
def isLeaf : Tree → Bool
  | .leaf _ => true
  | .node _ => false
def leafItems : Tree → List Item
  | .leaf items => items
  | .node _ => []
def jHere (cond : Box → Box → Bool) (a b : Tree) : List (Nat × Nat) := match a, b with
  | .leaf l, .leaf m => l.flatMap fun x => (m.filter fun y => cond x.box y.box).map fun y => (x.id, y.id)
  | _, _ => []
theorem jHere_eq (cond : Box → Box → Bool) (a b : Tree) : jHere cond a b = (nearL cond Item.box (leafItems a) (leafItems b)).map fun q => (q.1.id, q.2.id) := by
  unfold jHere nearL
  cases a with
  | leaf l => cases b with
    | leaf m =>
      simp only [leafItems, List.map_flatMap, List.map_map]
      rfl
    | node m => simp [leafItems]
  | node l => cases b <;> simp [leafItems]
section
variable (cond : Box → Box → Bool)
def jPairs (a b : Tree) : List (Tree × Tree) := match a, b with
  | .leaf _, .leaf _ => []
  | .node l, .leaf _ => l.map fun x => (x, b)
  | .leaf _, .node m => m.map fun y => (a, y)
  | .node l, .node m => l.flatMap fun x => m.map fun y => (x, y)
theorem jn_succ (n : Nat) (a b : Tree) : joinPairs cond (n + 1) a b =
    (1 + (((jPairs a b).filter fun q => cond q.1.box q.2.box).map fun q => (joinPairs cond n q.1 q.2).1).sum, jHere cond a b ++ ((jPairs a b).filter fun q => cond q.1.box q.2.box).flatMap fun q => (joinPairs cond n q.1 q.2).2) := by
  have h := fold_pair (fun q : Tree × Tree => joinPairs cond n q.1 q.2) ((jPairs a b).filter fun q => cond q.1.box q.2.box) (1, jHere cond a b)
  rw [← h]
  rfl
theorem jn_fuel : ∀ (s : Nat) (n1 n2 : Nat) (a b : Tree), n1 + n2 = s → Bal n1 a → Bal n2 b → ∀ m m', s + 1 ≤ m → s + 1 ≤ m' → joinPairs cond m a b = joinPairs cond m' a b := by
  intro s
  induction s using Nat.strongRecOn with
  | ind s ih =>
    intro n1 n2 a b hs ha hb m m' hm hm'
    obtain ⟨m, rfl⟩ : ∃ k, m = k + 1 := ⟨m - 1, by omega⟩
    obtain ⟨m', rfl⟩ : ∃ k, m' = k + 1 := ⟨m' - 1, by omega⟩
    rw [jn_succ, jn_succ]
    have e : ∀ q ∈ (jPairs a b).filter (fun q => cond q.1.box q.2.box), joinPairs cond m q.1 q.2 = joinPairs cond m' q.1 q.2 := by
      intro q hq
      have hq := (List.mem_filter.mp hq).1
      cases a with
      | leaf l => cases b with
        | leaf r => cases hq
        | node r =>
          cases n2 with
          | zero => exact hb.elim
          | succ n2 =>
            obtain ⟨y, hy, rfl⟩ := List.mem_map.mp hq
            exact ih (n1 + n2) (by omega) n1 n2 _ _ rfl ha (hb y hy) m m' (by omega) (by omega)
      | node l => cases n1 with
        | zero => exact ha.elim
        | succ n1 => cases b with
          | leaf r =>
            obtain ⟨x, hx, rfl⟩ := List.mem_map.mp hq
            exact ih (n1 + n2) (by omega) n1 n2 _ _ rfl (ha x hx) hb m m' (by omega) (by omega)
          | node r => cases n2 with
            | zero => exact hb.elim
            | succ n2 =>
              obtain ⟨x, hx, hq⟩ := List.mem_flatMap.mp hq
              obtain ⟨y, hy, rfl⟩ := List.mem_map.mp hq
              exact ih (n1 + n2) (by omega) n1 n2 _ _ rfl (ha x hx) (hb y hy) m m' (by omega) (by omega)
    congr 1
    · congr 2
      exact List.map_congr_left fun q hq => by rw [e q hq]
    · congr 1
      unfold List.flatMap
      congr 1
      exact List.map_congr_left fun q hq => by rw [e q hq]
abbrev jCnt (x : JP) : Nat := (joinPairs cond (x.1.1 + x.2.1 + 1) x.1.2 x.2.2).1
abbrev jOut (x : JP) : List (Nat × Nat) := (joinPairs cond (x.1.1 + x.2.1 + 1) x.1.2 x.2.2).2
theorem jCnt_pos (x : JP) : 1 ≤ jCnt cond x := by
  show 1 ≤ (joinPairs cond (x.1.1 + x.2.1 + 1) x.1.2 x.2.2).1
  rw [jn_succ]; dsimp only; omega
/-- what the program puts behind a pair is what the specification visits -/
def jKids (x : JP) : List JP := nearL cond ltBox (partsL x.1) (partsL x.2)
theorem map_filter_comm {α β : Type} (f : α → β) (p : β → Bool) : ∀ l : List α, (l.map f).filter p = (l.filter fun x => p (f x)).map f
  | [] => rfl
  | a :: l => by
    rw [List.map_cons, List.filter_cons, List.filter_cons, map_filter_comm f p l]
    split <;> rfl
theorem jKids_eq {n1 n2 : Nat} {a b : Tree} (h : (isLeaf a && isLeaf b) = false) : (jKids cond ((n1, a), (n2, b))).map (fun q => (q.1.2, q.2.2)) = (jPairs a b).filter fun q => cond q.1.box q.2.box := by
  unfold jKids nearL
  cases a with
  | leaf l => cases b with
    | leaf r => simp [isLeaf] at h
    | node r =>
      simp only [partsL, jPairs, List.flatMap_cons, List.flatMap_nil, List.append_nil]
      rw [map_filter_comm, map_filter_comm, List.map_map, List.map_map]
      rfl
  | node l => cases b with
    | leaf r =>
      simp only [partsL, jPairs]
      rw [map_filter_comm]
      induction l with
      | nil => rfl
      | cons x l ih =>
        rw [List.map_cons, List.flatMap_cons, List.map_append, ih (by simp [isLeaf]), List.filter_cons, List.filter_cons]
        by_cases c : cond x.box (Tree.leaf r).box = true
        · rw [if_pos c, if_pos c]; rfl
        · rw [if_neg c, if_neg c]; rfl
    | node r =>
      simp only [partsL, jPairs]
      induction l with
      | nil => rfl
      | cons x l ih =>
        rw [List.map_cons, List.flatMap_cons, List.map_append, ih (by simp [isLeaf]), List.flatMap_cons, List.filter_append, map_filter_comm, map_filter_comm, List.map_map, List.map_map]
        rfl
end
section
variable {cond : Box → Box → Bool}
theorem jKids_mem {x q : JP} (h : q ∈ jKids cond x) : q.1 ∈ partsL x.1 ∧ q.2 ∈ partsL x.2 ∧ cond (ltBox q.1) (ltBox q.2) = true := by
  obtain ⟨y, hy, h⟩ := List.mem_flatMap.mp h
  obtain ⟨z, hz, rfl⟩ := List.mem_map.mp h
  obtain ⟨h1, h2⟩ := List.mem_filter.mp hz
  exact ⟨hy, h1, h2⟩
theorem parts_bal {x y : LT} (hx : Bal x.1 x.2) (h : y ∈ partsL x) : Bal y.1 y.2 ∧ y.1 ≤ x.1 ∧ (isLeaf x.2 = false → y.1 < x.1) := by
  obtain ⟨n, t⟩ := x
  cases t with
  | leaf items =>
    rw [List.mem_singleton.mp h]
    exact ⟨hx, Nat.le_refl _, fun z => by simp [isLeaf] at z⟩
  | node ch =>
    obtain ⟨c, hc, rfl⟩ := List.mem_map.mp h
    cases n with
    | zero => exact hx.elim
    | succ n => exact ⟨hx c hc, by show n + 1 - 1 ≤ n + 1; omega, fun _ => by show n + 1 - 1 < n + 1; omega⟩
theorem jn_kids {x : JP} (h1 : Bal x.1.1 x.1.2) (h2 : Bal x.2.1 x.2.2) (h : (isLeaf x.1.2 && isLeaf x.2.2) = false) :
    jCnt cond x = 1 + ((jKids cond x).map (jCnt cond)).sum ∧ jOut cond x = (jKids cond x).flatMap (jOut cond) := by
  have e := jKids_eq cond (n1 := x.1.1) (n2 := x.2.1) h
  have hk : ∀ q ∈ jKids cond x, joinPairs cond (x.1.1 + x.2.1) q.1.2 q.2.2 = joinPairs cond (q.1.1 + q.2.1 + 1) q.1.2 q.2.2 := by
    intro q hq
    obtain ⟨m1, m2, _⟩ := jKids_mem hq
    obtain ⟨b1, l1, s1⟩ := parts_bal h1 m1
    obtain ⟨b2, l2, s2⟩ := parts_bal h2 m2
    refine jn_fuel cond (q.1.1 + q.2.1) _ _ _ _ rfl b1 b2 _ _ ?_ (Nat.le_refl _)
    rcases Bool.and_eq_false_iff.mp h with z | z
    · have := s1 z; omega
    · have := s2 z; omega
  have hh : jHere cond x.1.2 x.2.2 = [] := by
    rw [jHere_eq]
    unfold nearL
    rcases Bool.and_eq_false_iff.mp h with z | z
    · cases e1 : x.1.2 with
      | leaf l => rw [e1] at z; simp [isLeaf] at z
      | node l => simp [leafItems]
    · cases e1 : x.2.2 with
      | leaf l => rw [e1] at z; simp [isLeaf] at z
      | node l => simp [leafItems]
  constructor
  · show (joinPairs cond (x.1.1 + x.2.1 + 1) x.1.2 x.2.2).1 = _
    rw [jn_succ, ← e, List.map_map]
    dsimp only
    congr 2
    exact List.map_congr_left fun q hq => by show (joinPairs cond (x.1.1 + x.2.1) q.1.2 q.2.2).1 = _; rw [hk q hq]
  · show (joinPairs cond (x.1.1 + x.2.1 + 1) x.1.2 x.2.2).2 = _
    rw [jn_succ, ← e, hh, List.nil_append, List.flatMap_map]
    show ((jKids cond x).map _).flatten = ((jKids cond x).map _).flatten
    congr 1
    refine List.map_congr_left fun (q : JP) hq => ?_
    show (joinPairs cond (x.1.1 + x.2.1) q.1.2 q.2.2).2 = _
    rw [hk q hq]
theorem jn_leaf {x : JP} (h : (isLeaf x.1.2 && isLeaf x.2.2) = true) : jCnt cond x = 1 ∧ jOut cond x = jHere cond x.1.2 x.2.2 := by
  obtain ⟨⟨n1, a⟩, n2, b⟩ := x
  cases a with
  | node l => simp [isLeaf] at h
  | leaf l => cases b with
    | node r => simp [isLeaf] at h
    | leaf r =>
      constructor
      · show (joinPairs cond (n1 + n2 + 1) (.leaf l) (.leaf r)).1 = 1
        rw [jn_succ]; rfl
      · show (joinPairs cond (n1 + n2 + 1) (.leaf l) (.leaf r)).2 = _
        rw [jn_succ]; simp [jPairs]
theorem jStep_leaf {N : Nat} {tot : List (Nat × Nat)} {xs : List JP} {k : Nat} {found : List (Nat × Nat)} {x : JP} (h : Bfs (jCnt cond) (jOut cond) N tot xs k found) (hx : xs[k]? = some x) (hl : (isLeaf x.1.2 && isLeaf x.2.2) = true) :
    Bfs (jCnt cond) (jOut cond) N tot xs (k + 1) (found ++ jHere cond x.1.2 x.2.2) := by
  obtain ⟨h1, h2⟩ := jn_leaf (cond := cond) hl
  have := h.step hx (kids := []) (z := jHere cond x.1.2 x.2.2) (by rw [h1]; rfl) (by rw [h2]; simp)
  rwa [List.append_nil] at this
theorem jStep_node {N : Nat} {tot : List (Nat × Nat)} {xs : List JP} {k : Nat} {found : List (Nat × Nat)} {x : JP} (h : Bfs (jCnt cond) (jOut cond) N tot xs k found) (hx : xs[k]? = some x) (b1 : Bal x.1.1 x.1.2) (b2 : Bal x.2.1 x.2.2) (hl : (isLeaf x.1.2 && isLeaf x.2.2) = false) :
    Bfs (jCnt cond) (jOut cond) N tot (xs ++ jKids cond x) (k + 1) found := by
  obtain ⟨h1, h2⟩ := jn_kids (cond := cond) b1 b2 hl
  have := h.step hx (kids := jKids cond x) (z := []) h1 (by rw [h2]; simp)
  rwa [List.append_nil] at this

/-! few pairs -/
/-- at most four entries, every inner node's children too -/
def Thin : Nat → Tree → Prop
  | 0, .leaf items => items.length ≤ 4
  | n + 1, .node ch => ch.length ≤ 4 ∧ ∀ c ∈ ch, Thin n c
  | _, _ => False
theorem Full.thin : ∀ {n : Nat} {t : Tree}, Full n t → Thin n t
  | 0, .leaf _, h => h.2
  | 0, .node _, h => h.elim
  | n + 1, .leaf _, h => h.elim
  | n + 1, .node ch, h => ⟨h.1.2, fun c hc => (h.2 c hc).thin⟩
theorem Root.thin : ∀ {n : Nat} {t : Tree}, Root n t → Thin n t
  | 0, .leaf _, h => h
  | 0, .node _, h => h.elim
  | n + 1, .leaf _, h => h.elim
  | n + 1, .node ch, h => ⟨h.1.2, fun c hc => (h.2 c hc).thin⟩
theorem Thin.bal : ∀ {n : Nat} {t : Tree}, Thin n t → Bal n t
  | 0, .leaf _, _ => trivial
  | 0, .node _, h => h.elim
  | n + 1, .leaf _, h => h.elim
  | n + 1, .node ch, h => fun c hc => (h.2 c hc).bal
theorem parts_thin {x y : LT} (hx : Thin x.1 x.2) (h : y ∈ partsL x) : Thin y.1 y.2 := by
  obtain ⟨n, t⟩ := x
  cases t with
  | leaf items => rw [List.mem_singleton.mp h]; exact hx
  | node ch =>
    obtain ⟨c, hc, rfl⟩ := List.mem_map.mp h
    cases n with
    | zero => exact hx.elim
    | succ n => exact hx.2 c hc
theorem sum_le {α : Type} (f : α → Nat) (B : Nat) : ∀ l : List α, (∀ x ∈ l, f x ≤ B) → (l.map f).sum ≤ l.length * B
  | [], _ => by simp
  | a :: l, h => by
    have := sum_le f B l fun x hx => h x (List.mem_cons_of_mem _ hx)
    have := h a List.mem_cons_self
    rw [List.map_cons, List.sum_cons, List.length_cons, Nat.add_mul, Nat.one_mul]; omega
theorem nearL_len {α : Type} (box : α → Box) (l m : List α) : (nearL cond box l m).length ≤ l.length * m.length := by
  unfold nearL
  induction l with
  | nil => simp
  | cons a l ih =>
    rw [List.flatMap_cons, List.length_append, List.length_map, List.length_cons, Nat.add_mul, Nat.one_mul]
    have := List.length_filter_le (fun y => cond (box a) (box y)) m
    omega
theorem jCnt_le : ∀ (s : Nat) (x : JP), x.1.1 + x.2.1 = s → Thin x.1.1 x.1.2 → Thin x.2.1 x.2.2 → jCnt cond x + 1 ≤ 2 * 4 ^ s := by
  intro s
  induction s using Nat.strongRecOn with
  | ind s ih =>
    intro x hs h1 h2
    by_cases hl : (isLeaf x.1.2 && isLeaf x.2.2) = true
    · rw [(jn_leaf hl).1]
      have := Nat.pow_pos (n := s) (show 0 < 4 by omega)
      omega
    · have hl : (isLeaf x.1.2 && isLeaf x.2.2) = false := by simpa using hl
      rw [(jn_kids h1.bal h2.bal hl).1]
      have hlen := nearL_len (cond := cond) ltBox (partsL x.1) (partsL x.2)
      -- one or both are inner
      have key : ∀ (d : Nat), (∀ q ∈ jKids cond x, q.1.1 + q.2.1 + d = s) → 1 ≤ d → (jKids cond x).length ≤ 4 ^ d → 1 + ((jKids cond x).map (jCnt cond)).sum + 1 ≤ 2 * 4 ^ s := by
        intro d hd d1 hk
        by_cases h0 : jKids cond x = []
        · rw [h0]
          have := Nat.pow_pos (n := s) (show 0 < 4 by omega)
          show 1 + 0 + 1 ≤ _
          omega
        · have hds : d ≤ s := by
            cases e : jKids cond x with
            | nil => exact absurd e h0
            | cons q r => have := hd q (by rw [e]; exact List.mem_cons_self); omega
          have hb : ∀ q ∈ jKids cond x, jCnt cond q ≤ 2 * 4 ^ (s - d) - 1 := by
            intro q hq
            obtain ⟨m1, m2, _⟩ := jKids_mem hq
            have e := hd q hq
            have := ih (q.1.1 + q.2.1) (by omega) q rfl (parts_thin h1 m1) (parts_thin h2 m2)
            have e2 : q.1.1 + q.2.1 = s - d := by omega
            rw [e2] at this
            omega
          have h3 := sum_le (jCnt cond) _ _ hb
          have h4 : (jKids cond x).length * (2 * 4 ^ (s - d) - 1) ≤ 4 ^ d * (2 * 4 ^ (s - d) - 1) := Nat.mul_le_mul_right _ hk
          have h5 : 4 ^ d * 4 ^ (s - d) = 4 ^ s := by rw [← Nat.pow_add]; congr 1; omega
          have h6 : 4 ^ d * (2 * 4 ^ (s - d) - 1) = 2 * (4 ^ d * 4 ^ (s - d)) - 4 ^ d := by
            rw [Nat.mul_sub, Nat.mul_one, Nat.mul_left_comm]
          rw [h5] at h6
          have h7 : 4 ≤ 4 ^ d := by
            have := Nat.pow_le_pow_right (n := 4) (by omega) d1
            simpa using this
          have h8 : 4 ^ d ≤ 4 ^ s := Nat.pow_le_pow_right (by omega) hds
          omega
      obtain ⟨⟨n1, a⟩, n2, b⟩ := x
      dsimp only at *
      cases a with
      | leaf l => cases b with
        | leaf r => simp [isLeaf] at hl
        | node r => cases n2 with
          | zero => exact h2.elim
          | succ n2 =>
            refine key 1 (fun q hq => ?_) (by omega) ?_
            · obtain ⟨m1, m2, _⟩ := jKids_mem hq
              rw [List.mem_singleton.mp m1]
              obtain ⟨c, _, e⟩ := List.mem_map.mp m2
              rw [← e]
              show n1 + (n2 + 1 - 1) + 1 = s
              omega
            · refine Nat.le_trans hlen ?_
              show 1 * (r.map _).length ≤ 4
              rw [List.length_map, Nat.one_mul]; exact h2.1
      | node l => cases n1 with
        | zero => exact h1.elim
        | succ n1 => cases b with
          | leaf r =>
            refine key 1 (fun q hq => ?_) (by omega) ?_
            · obtain ⟨m1, m2, _⟩ := jKids_mem hq
              rw [List.mem_singleton.mp m2]
              obtain ⟨c, _, e⟩ := List.mem_map.mp m1
              rw [← e]
              show (n1 + 1 - 1) + n2 + 1 = s
              omega
            · refine Nat.le_trans hlen ?_
              show (l.map _).length * 1 ≤ 4
              rw [List.length_map, Nat.mul_one]; exact h1.1
          | node r => cases n2 with
            | zero => exact h2.elim
            | succ n2 =>
              refine key 2 (fun q hq => ?_) (by omega) ?_
              · obtain ⟨m1, m2, _⟩ := jKids_mem hq
                obtain ⟨c, _, e⟩ := List.mem_map.mp m1
                obtain ⟨c2, _, e2⟩ := List.mem_map.mp m2
                rw [← e, ← e2]
                show (n1 + 1 - 1) + (n2 + 1 - 1) + 2 = s
                omega
              · refine Nat.le_trans hlen ?_
                show (l.map _).length * (r.map _).length ≤ 4 ^ 2
                rw [List.length_map, List.length_map]
                exact Nat.mul_le_mul h1.1 h2.1
end
end BF
namespace BF
open Kvg6
/-! ### J. joins of good trees; boxes of good trees -/
theorem joinAll_ok : ∀ {l : List Box}, l ≠ [] → (∀ b ∈ l, BoxOk b) → BoxOk (joinAll l) := by
  have key : ∀ (l : List Box) (b : Box), BoxOk b → (∀ c ∈ l, BoxOk c) → BoxOk (l.foldl join b) := by
    intro l
    induction l with
    | nil => exact fun b hb _ => hb
    | cons a r ih =>
      intro b hb h
      rw [List.foldl_cons]
      refine ih _ ?_ fun c hc => h c (List.mem_cons_of_mem _ hc)
      have ha := h a List.mem_cons_self
      obtain ⟨⟨a1, a2, a3⟩, a4, a5, a6⟩ := ha
      obtain ⟨⟨b1, b2, b3⟩, b4, b5, b6⟩ := hb
      unfold join BoxOk
      dsimp only
      omega
  intro l h0 h
  cases l with
  | nil => exact absurd rfl h0
  | cons a r => exact key r a (h a List.mem_cons_self) fun c hc => h c (List.mem_cons_of_mem _ hc)
/-- a tree of good boxes, not empty -/
structure Fine (n : Nat) (t : Tree) : Prop where
  root : Root n t
  pos : 1 ≤ (itemsOfTree n t).length
  ok : ∀ it ∈ itemsOfTree n t, BoxOk it.box
theorem Full.pos {n : Nat} {t : Tree} (h : Full n t) : 1 ≤ (itemsOfTree n t).length := Nat.le_trans (Nat.one_le_two_pow) (itemsOf_full h)
theorem full_fine {n : Nat} {t : Tree} (h : Full n t) (ok : ∀ it ∈ itemsOfTree n t, BoxOk it.box) : Fine n t := ⟨h.root, h.pos, ok⟩
theorem child_ok {n : Nat} {ch : List Tree} (ok : ∀ it ∈ itemsOfTree (n + 1) (.node ch), BoxOk it.box) {c : Tree} (hc : c ∈ ch) : ∀ it ∈ itemsOfTree n c, BoxOk it.box :=
  fun it hi => ok it (List.mem_flatMap.mpr ⟨c, hc, hi⟩)
theorem fine_box : ∀ {n : Nat} {t : Tree}, Fine n t → n ≤ 15 → BoxOk t.box
  | 0, .leaf items, h, _ => by
    rw [box_leaf]
    have hp : 1 ≤ items.length := h.pos
    refine joinAll_ok (fun e => ?_) fun b hb => ?_
    · have := congrArg List.length e
      rw [List.length_map] at this
      simp at this
      rw [this] at hp; simp at hp
    · obtain ⟨it, hi, rfl⟩ := List.mem_map.mp hb
      exact h.ok it hi
  | 0, .node _, h, _ => h.root.elim
  | n + 1, .leaf _, h, _ => h.root.elim
  | n + 1, .node ch, h, hn => by
    obtain ⟨⟨h2, _⟩, hf⟩ := h.root
    rw [box_node (k := n) (fun c hc => (hf c hc).bal) (by omega)]
    refine joinAll_ok (fun e => ?_) fun b hb => ?_
    · have := congrArg List.length e
      rw [List.length_map] at this
      simp at this
      rw [this] at h2; simp at h2
    · obtain ⟨c, hc, rfl⟩ := List.mem_map.mp hb
      exact fine_box (full_fine (hf c hc) (child_ok h.ok hc)) (by omega)
theorem parts_fine {x y : LT} (hx : Fine x.1 x.2) (h : y ∈ partsL x) : Fine y.1 y.2 := by
  obtain ⟨n, t⟩ := x
  cases t with
  | leaf items => rw [List.mem_singleton.mp h]; exact hx
  | node ch =>
    obtain ⟨c, hc, rfl⟩ := List.mem_map.mp h
    cases n with
    | zero => exact hx.root.elim
    | succ n => exact full_fine (hx.root.2 c hc) (child_ok hx.ok hc)
/-- two boxes have a common point just if their distance is 0 -/
theorem meets_iff {a b : Box} (ha : BoxOk a) (hb : BoxOk b) : intersects a b = decide (squaredDistance a b ≤ 0) := by
  obtain ⟨⟨a1, a2, a3⟩, a4, a5, a6⟩ := ha
  obtain ⟨⟨b1, b2, b3⟩, b4, b5, b6⟩ := hb
  have hx : 0 ≤ gap a.x0 a.x1 b.x0 b.x1 := by unfold gap; omega
  have hy : 0 ≤ gap a.y0 a.y1 b.y0 b.y1 := by unfold gap; omega
  have e : squaredDistance a b ≤ 0 ↔ gap a.x0 a.x1 b.x0 b.x1 = 0 ∧ gap a.y0 a.y1 b.y0 b.y1 = 0 := by
    unfold squaredDistance
    dsimp only
    have p1 := Int.mul_nonneg hx hx
    have p2 := Int.mul_nonneg hy hy
    constructor
    · intro h
      have h1 : gap a.x0 a.x1 b.x0 b.x1 * gap a.x0 a.x1 b.x0 b.x1 = 0 := by omega
      have h2 : gap a.y0 a.y1 b.y0 b.y1 * gap a.y0 a.y1 b.y0 b.y1 = 0 := by omega
      exact ⟨by rcases Int.mul_eq_zero.mp h1 with z | z <;> exact z, by rcases Int.mul_eq_zero.mp h2 with z | z <;> exact z⟩
    · rintro ⟨h1, h2⟩
      rw [h1, h2]; decide
  rw [Bool.eq_iff_iff]
  simp only [decide_eq_true_eq]
  rw [e]
  unfold intersects gap
  simp only [Bool.and_eq_true, decide_eq_true_eq]
  omega
theorem jn_congr {c1 c2 : Box → Box → Bool} (hc : ∀ a b, BoxOk a → BoxOk b → c1 a b = c2 a b) : ∀ (s : Nat) (x : JP), x.1.1 + x.2.1 = s → Fine x.1.1 x.1.2 → Fine x.2.1 x.2.2 → x.1.1 ≤ 15 → x.2.1 ≤ 15 → jCnt c1 x = jCnt c2 x ∧ jOut c1 x = jOut c2 x := by
  intro s
  induction s using Nat.strongRecOn with
  | ind s ih =>
    intro x hs h1 h2 l1 l2
    by_cases hl : (isLeaf x.1.2 && isLeaf x.2.2) = true
    · obtain ⟨p1, p2⟩ := jn_leaf (cond := c1) hl
      obtain ⟨q1, q2⟩ := jn_leaf (cond := c2) hl
      refine ⟨by rw [p1, q1], ?_⟩
      rw [p2, q2, jHere_eq, jHere_eq]
      obtain ⟨⟨n1, a⟩, n2, b⟩ := x
      cases a with
      | node l => simp [isLeaf] at hl
      | leaf l => cases b with
        | node r => simp [isLeaf] at hl
        | leaf r =>
          have k1 : ∀ it ∈ l, BoxOk it.box := fun it hi => h1.ok it (by show it ∈ itemsOfTree n1 (.leaf l); cases n1 <;> exact hi)
          have k2 : ∀ it ∈ r, BoxOk it.box := fun it hi => h2.ok it (by show it ∈ itemsOfTree n2 (.leaf r); cases n2 <;> exact hi)
          congr 1
          show (l.map _).flatten = (l.map _).flatten
          congr 1
          refine List.map_congr_left fun x hx => ?_
          congr 1
          exact List.filter_congr fun y hy => hc _ _ (k1 x hx) (k2 y hy)
    · have hl : (isLeaf x.1.2 && isLeaf x.2.2) = false := by simpa using hl
      obtain ⟨p1, p2⟩ := jn_kids (cond := c1) h1.root.bal h2.root.bal hl
      obtain ⟨q1, q2⟩ := jn_kids (cond := c2) h1.root.bal h2.root.bal hl
      have f1 : ∀ y ∈ partsL x.1, Fine y.1 y.2 ∧ y.1 ≤ 15 := fun y hy => ⟨parts_fine h1 hy, by have := (parts_bal h1.root.bal hy).2.1; omega⟩
      have f2 : ∀ y ∈ partsL x.2, Fine y.1 y.2 ∧ y.1 ≤ 15 := fun y hy => ⟨parts_fine h2 hy, by have := (parts_bal h2.root.bal hy).2.1; omega⟩
      have ek : jKids c1 x = jKids c2 x := by
        unfold jKids nearL
        show ((partsL x.1).map _).flatten = ((partsL x.1).map _).flatten
        congr 1
        refine List.map_congr_left fun y hy => ?_
        congr 1
        exact List.filter_congr fun z hz => hc _ _ (fine_box (f1 y hy).1 (f1 y hy).2) (fine_box (f2 z hz).1 (f2 z hz).2)
      have hk : ∀ q ∈ jKids c2 x, jCnt c1 q = jCnt c2 q ∧ jOut c1 q = jOut c2 q := by
        intro q hq
        obtain ⟨m1, m2, _⟩ := jKids_mem hq
        obtain ⟨_, k1, s1⟩ := parts_bal h1.root.bal m1
        obtain ⟨_, k2, s2⟩ := parts_bal h2.root.bal m2
        refine ih (q.1.1 + q.2.1) ?_ q rfl (f1 _ m1).1 (f2 _ m2).1 (f1 _ m1).2 (f2 _ m2).2
        rcases Bool.and_eq_false_iff.mp hl with z | z
        · have := s1 z; omega
        · have := s2 z; omega
      refine ⟨?_, ?_⟩
      · rw [p1, q1, ek]
        congr 2
        exact List.map_congr_left fun q hq => (hk q hq).1
      · rw [p2, q2, ek]
        show ((jKids c2 x).map _).flatten = ((jKids c2 x).map _).flatten
        congr 1
        exact List.map_congr_left fun q hq => (hk q hq).2
/-- how many pairs of items -/
theorem nearL_sum {α β : Type} (cond : Box → Box → Bool) (box : α → Box) (w : α → List β) (l m : List α) (o : α × α → Nat) (ho : ∀ q ∈ nearL cond box l m, o q ≤ (w q.1).length * (w q.2).length) :
    ((nearL cond box l m).map o).sum ≤ (l.flatMap w).length * (m.flatMap w).length := by
  induction l with
  | nil => simp [nearL]
  | cons a l ih =>
    have e : nearL cond box (a :: l) m = ((m.filter fun y => cond (box a) (box y)).map fun y => (a, y)) ++ nearL cond box l m := rfl
    rw [e] at ho ⊢
    rw [List.map_append, List.sum_append, List.flatMap_cons, List.length_append, Nat.add_mul]
    have h1 := ih fun q hq => ho q (List.mem_append_right _ hq)
    have h2 : ((((m.filter fun y => cond (box a) (box y)).map fun y => (a, y))).map o).sum ≤ (w a).length * (m.flatMap w).length := by
      have ho' : ∀ y ∈ m.filter (fun y => cond (box a) (box y)), o (a, y) ≤ (w a).length * (w y).length := fun y hy => ho (a, y) (List.mem_append_left _ (List.mem_map_of_mem hy))
      clear ho e ih h1
      induction m with
      | nil => simp
      | cons b m ih =>
        rw [List.flatMap_cons, List.length_append, Nat.mul_add]
        rw [List.filter_cons] at ho' ⊢
        by_cases c : cond (box a) (box b) = true
        · rw [if_pos c] at ho' ⊢
          have := ih fun y hy => ho' y (List.mem_cons_of_mem _ hy)
          have := ho' b List.mem_cons_self
          rw [List.map_cons, List.map_cons, List.sum_cons]
          omega
        · rw [if_neg c] at ho' ⊢
          have := ih fun y hy => ho' y hy
          omega
    omega
theorem parts_items {x : LT} (h : Bal x.1 x.2) : (partsL x).flatMap (fun y => itemsOfTree y.1 y.2) = itemsOfTree x.1 x.2 := by
  obtain ⟨n, t⟩ := x
  cases t with
  | leaf items => simp [partsL]
  | node ch => cases n with
    | zero => exact h.elim
    | succ n =>
      show (ch.map _).flatMap _ = ch.flatMap _
      rw [List.flatMap_map]
      rfl
theorem flat_len {α β : Type} (f : α → List β) : ∀ l : List α, (l.flatMap f).length = (l.map fun x => (f x).length).sum
  | [] => rfl
  | a :: l => by rw [List.flatMap_cons, List.length_append, List.map_cons, List.sum_cons, flat_len f l]
theorem jOut_le {cond : Box → Box → Bool} : ∀ (s : Nat) (x : JP), x.1.1 + x.2.1 = s → Bal x.1.1 x.1.2 → Bal x.2.1 x.2.2 → (jOut cond x).length ≤ (itemsOfTree x.1.1 x.1.2).length * (itemsOfTree x.2.1 x.2.2).length := by
  intro s
  induction s using Nat.strongRecOn with
  | ind s ih =>
    intro x hs h1 h2
    by_cases hl : (isLeaf x.1.2 && isLeaf x.2.2) = true
    · rw [(jn_leaf hl).2, jHere_eq, List.length_map]
      obtain ⟨⟨n1, a⟩, n2, b⟩ := x
      cases a with
      | node l => simp [isLeaf] at hl
      | leaf l => cases b with
        | node r => simp [isLeaf] at hl
        | leaf r =>
          have := nearL_len (cond := cond) Item.box l r
          cases n1 <;> cases n2 <;> exact this
    · have hl : (isLeaf x.1.2 && isLeaf x.2.2) = false := by simpa using hl
      rw [(jn_kids h1 h2 hl).2, flat_len, ← parts_items h1, ← parts_items h2]
      refine nearL_sum cond ltBox (fun y : LT => itemsOfTree y.1 y.2) (partsL x.1) (partsL x.2) (fun q => (jOut cond q).length) fun q hq => ?_
      obtain ⟨m1, m2, _⟩ := jKids_mem hq
      obtain ⟨b1, k1, s1⟩ := parts_bal h1 m1
      obtain ⟨b2, k2, s2⟩ := parts_bal h2 m2
      refine ih (q.1.1 + q.2.1) ?_ q rfl b1 b2
      rcases Bool.and_eq_false_iff.mp hl with z | z
      · have := s1 z; omega
      · have := s2 z; omega
/-- the program's condition -/
abbrev within (limit : Int) (a b : Box) : Bool := decide (squaredDistance a b ≤ limit)
theorem good_fine {n : Nat} {t : Tree} (g : GoodAt n t) (h : t.items.isEmpty = false) : Fine n t := by
  refine ⟨g.root, ?_, fun it hi => (g.ok it hi).1⟩
  rw [g.items] at h
  cases e : itemsOfTree n t with
  | nil => rw [e] at h; simp at h
  | cons a r => simp
theorem joinTrees_eq {n m : Nat} {a b : Tree} (ga : GoodAt n a) (gb : GoodAt m b) (cond : Box → Box → Bool) (limit : Int) (hc : ∀ a b, BoxOk a → BoxOk b → cond a b = within limit a b) :
    joinTrees cond a b = if a.items.isEmpty || b.items.isEmpty then (0, []) else if within limit a.box b.box = true then (jCnt (within limit) ((n, a), (m, b)), sortPairs (jOut (within limit) ((n, a), (m, b)))) else (0, []) := by
  unfold joinTrees
  by_cases h1 : a.items.isEmpty = true
  · rw [h1]; rfl
  by_cases h2 : b.items.isEmpty = true
  · rw [h2]; simp
  have h1 : a.items.isEmpty = false := by simpa using h1
  have h2 : b.items.isEmpty = false := by simpa using h2
  have fa := good_fine ga h1
  have fb := good_fine gb h2
  have l1 := ga.low
  have l2 := gb.low
  rw [h1, h2, hc a.box b.box (fine_box fa (by omega)) (fine_box fb (by omega))]
  simp only [Bool.false_or, Bool.false_eq_true, if_false]
  by_cases c : within limit a.box b.box = true
  · rw [c]
    simp only [Bool.not_true, Bool.false_eq_true, if_false, if_true]
    obtain ⟨e1, e2⟩ := jn_congr hc (n + m) ((n, a), (m, b)) rfl fa fb (by dsimp only; omega) (by dsimp only; omega)
    have ef : joinPairs cond (2 * fuel) a b = joinPairs cond (n + m + 1) a b := jn_fuel cond (n + m) n m a b rfl ga.root.bal gb.root.bal _ _ (by unfold fuel; omega) (by omega)
    rw [ef]
    show ((jCnt cond ((n, a), (m, b))), sortPairs (jOut cond ((n, a), (m, b)))) = _
    rw [e1, e2]
  · rw [if_neg c]
    have : within limit a.box b.box = false := by simpa using c
    rw [this]; rfl
end BF
namespace BF
open Kvg6
/-! ### K. the nearest ones -/
/-- a row of the program's queue: distance, 0 for nodes and 1 for items, time or number, the entry -/
structure QE where
  d : Int
  kind : Nat
  ord : Int
  x : Sum LT Item
abbrev qKey (e : QE) : List Int := [e.d, (e.kind : Int), e.ord]
abbrev eKey (e : Entry) : List Int := [e.distance, (e.isItem : Int), (e.order : Int)]
theorem before_eq (a b : Entry) : a.before b = klt (eKey a) (eKey b) := by
  rw [Bool.eq_iff_iff, show klt (eKey a) (eKey b) = klt [a.distance, (a.isItem : Int), (a.order : Int)] [b.distance, (b.isItem : Int), (b.order : Int)] from rfl, klt_cons, klt_cons, klt_one]
  unfold Entry.before
  simp only [Bool.or_eq_true, decide_eq_true_eq, Bool.and_eq_true, beq_iff_eq]
  omega
theorem insertEntry_eq (e : Entry) : ∀ l, insertEntry e l = insK eKey e l
  | [] => rfl
  | y :: l => by rw [insertEntry, insK, insertEntry_eq e l, before_eq]
/-- a row of both queues; items have their numbers -/
inductive Match : QE → Entry → Prop where
  | item (d : Int) (it : Item) : Match ⟨d, 1, (it.id : Int), .inr it⟩ ⟨d, 1, it.id, .inr it⟩
  | node (d : Int) (o : Int) (c : Nat) (x : LT) : Match ⟨d, 0, o, .inl x⟩ ⟨d, 0, c, .inl x.2⟩
/-- what a row still holds: items -/
def qItems (e : QE) : List Item := match e.x with
  | .inl x => itemsOfTree x.1 x.2
  | .inr it => [it]
/-- .. and turns -/
def nodesN (n : Nat) (t : Tree) : Nat := (nodesOfTree n t).length
def qW (e : QE) : Nat := match e.x with
  | .inl x => (itemsOfTree x.1 x.2).length + nodesN x.1 x.2
  | .inr _ => 1
/-- rows side by side, nodes in the order of their times in both -/
structure Side (time : Int) (counter : Nat) (q : List QE) (es : List Entry) : Prop where
  len : q.length = es.length
  each : ∀ (i : Nat) a b, q[i]? = some a → es[i]? = some b → Match a b
  order : ∀ (i j : Nat) a b a' b', i < j → q[i]? = some a → q[j]? = some b → es[i]? = some a' → es[j]? = some b' → a.kind = 0 → b.kind = 0 → a.ord < b.ord ∧ a'.order < b'.order
  late : ∀ (i : Nat) a b, q[i]? = some a → es[i]? = some b → a.kind = 0 → a.ord < time ∧ b.order < counter
  ids : (q.flatMap qItems |>.map Item.id).Nodup
theorem Side.kinds {time : Int} {counter : Nat} {q : List QE} {es : List Entry} (s : Side time counter q es) {i : Nat} {a : QE} {b : Entry} (ha : q[i]? = some a) (hb : es[i]? = some b) : a.d = b.distance ∧ a.kind = b.isItem ∧ (a.kind = 1 → a.ord = (b.order : Int)) ∧ (a.kind = 0 ∨ a.kind = 1) := by
  cases s.each i a b ha hb with
  | item d it => exact ⟨rfl, rfl, fun _ => rfl, .inr rfl⟩
  | node d o c x => exact ⟨rfl, rfl, fun h => by simp at h, .inl rfl⟩
/-- two items in the queue have different numbers -/
theorem ids_ne {q : List QE} (hn : (q.flatMap qItems |>.map Item.id).Nodup) {i j : Nat} {a b : QE} (hij : i < j) (ha : q[i]? = some a) (hb : q[j]? = some b) {x y : Item} (hx : x ∈ qItems a) (hy : y ∈ qItems b) : x.id ≠ y.id := by
  obtain ⟨hi, e⟩ := List.getElem?_eq_some_iff.mp ha
  have e1 : q = q.take i ++ a :: q.drop (i + 1) := by
    have h1 := List.take_append_drop i q
    rw [List.drop_eq_getElem_cons hi, e] at h1
    exact h1.symm
  rw [e1, List.flatMap_append, List.flatMap_cons, List.map_append, List.map_append, List.nodup_append] at hn
  obtain ⟨_, h2, _⟩ := hn
  obtain ⟨_, _, h3⟩ := List.nodup_append.mp h2
  refine h3 x.id (List.mem_map_of_mem hx) y.id (List.mem_map_of_mem (List.mem_flatMap.mpr ⟨b, ?_, hy⟩))
  have hb' : (q.drop (i + 1))[j - (i + 1)]? = some b := by rw [List.getElem?_drop]; rw [show i + 1 + (j - (i + 1)) = j by omega]; exact hb
  exact List.mem_of_getElem? hb'
theorem match_item {a : QE} {b : Entry} (m : Match a b) (h : a.kind = 1) : ∃ it, a.x = .inr it ∧ a.ord = (it.id : Int) ∧ it ∈ qItems a := by
  cases m with
  | item d it => exact ⟨it, rfl, rfl, List.mem_singleton_self _⟩
  | node d o c x => simp at h
/-- no key stands twice in the program's queue -/
theorem Side.keys {time : Int} {counter : Nat} {q : List QE} {es : List Entry} (s : Side time counter q es) {i j : Nat} {a b : QE} (hij : i < j) (ha : q[i]? = some a) (hb : q[j]? = some b) : qKey a ≠ qKey b := by
  obtain ⟨hi, _⟩ := List.getElem?_eq_some_iff.mp ha
  obtain ⟨hj, _⟩ := List.getElem?_eq_some_iff.mp hb
  obtain ⟨a', ha'⟩ : ∃ a', es[i]? = some a' := ⟨_, List.getElem?_eq_getElem (by rw [← s.len]; exact hi)⟩
  obtain ⟨b', hb'⟩ : ∃ b', es[j]? = some b' := ⟨_, List.getElem?_eq_getElem (by rw [← s.len]; exact hj)⟩
  intro e
  simp only [qKey, List.cons.injEq, and_true] at e
  obtain ⟨e1, e2, e3⟩ := e
  have e2 : a.kind = b.kind := by omega
  rcases (s.kinds ha ha').2.2.2 with k | k
  · have := (s.order i j a b a' b' hij ha hb ha' hb' k (by omega)).1
    omega
  · obtain ⟨it, _, o1, m1⟩ := match_item (s.each i a a' ha ha') k
    obtain ⟨it2, _, o2, m2⟩ := match_item (s.each j b b' hb hb') (by omega)
    exact ids_ne s.ids hij ha hb m1 m2 (by omega)
/-- the program's first row is the specification's -/
theorem Side.least {time : Int} {counter : Nat} {q : List QE} {es : List Entry} (s : Side time counter q es) {i : Nat} (hf : First (fun j => qKey (q.getD j ⟨0, 0, 0, .inl (0, .leaf [])⟩)) q.length i) {b : Entry} (hb : es[i]? = some b) :
    ∀ (j : Nat) b', j ≠ i → es[j]? = some b' → klt (eKey b) (eKey b') = true := by
  intro j b' hj hb'
  have hi := hf.lt
  obtain ⟨hj', _⟩ := List.getElem?_eq_some_iff.mp hb'
  have hjq : j < q.length := by rw [s.len]; exact hj'
  obtain ⟨a, ha⟩ : ∃ a, q[i]? = some a := ⟨_, List.getElem?_eq_getElem hi⟩
  obtain ⟨a', ha'⟩ : ∃ a', q[j]? = some a' := ⟨_, List.getElem?_eq_getElem hjq⟩
  have ga : q.getD i ⟨0, 0, 0, .inl (0, .leaf [])⟩ = a := by simp only [List.getD, ha, Option.getD_some]
  have ga' : q.getD j ⟨0, 0, 0, .inl (0, .leaf [])⟩ = a' := by simp only [List.getD, ha', Option.getD_some]
  have hk : klt (qKey a) (qKey a') = true := by
    have h1 := hf.least j hjq
    simp only [ga, ga'] at h1
    rcases klt_total (qKey a) (qKey a') with z | z | z
    · exact z
    · rcases Nat.lt_or_gt_of_ne hj with c | c
      · exact absurd z.symm (s.keys c ha' ha)
      · exact absurd z (s.keys c ha ha')
    · rw [h1] at z; cases z
  obtain ⟨d1, k1, o1, z1⟩ := s.kinds ha hb
  obtain ⟨d2, k2, o2, z2⟩ := s.kinds ha' hb'
  rw [show klt (qKey a) (qKey a') = klt [a.d, (a.kind : Int), a.ord] [a'.d, (a'.kind : Int), a'.ord] from rfl, klt_cons, klt_cons, klt_one] at hk
  rw [show klt (eKey b) (eKey b') = klt [b.distance, (b.isItem : Int), (b.order : Int)] [b'.distance, (b'.isItem : Int), (b'.order : Int)] from rfl, klt_cons, klt_cons, klt_one]
  simp only [Bool.or_eq_true, decide_eq_true_eq, Bool.and_eq_true, beq_iff_eq] at hk ⊢
  rcases hk with hk | ⟨hk, hk2⟩
  · left; omega
  · right
    refine ⟨by omega, ?_⟩
    rcases hk2 with hk2 | ⟨hk2, hk3⟩
    · left; omega
    · right
      refine ⟨by omega, ?_⟩
      rcases z1 with z | z
      · rcases Nat.lt_or_gt_of_ne hj with c | c
        · have := (s.order j i a' a b' b c ha' ha hb' hb (by omega) z).1
          omega
        · have := (s.order i j a a' b b' c ha ha' hb hb' z (by omega)).2
          omega
      · have := o1 z
        have := o2 (by omega)
        omega
/-- without the row -/
theorem Side.erase {time : Int} {counter : Nat} {q : List QE} {es : List Entry} (s : Side time counter q es) (i : Nat) : Side time counter (q.eraseIdx i) (es.eraseIdx i) := by
  have up : ∀ (j : Nat) (a : QE), (q.eraseIdx i)[j]? = some a → q[if j < i then j else j + 1]? = some a := by
    intro j a h
    rw [List.getElem?_eraseIdx] at h
    split <;> rename_i c <;> simpa [c] using h
  have up' : ∀ (j : Nat) (a : Entry), (es.eraseIdx i)[j]? = some a → es[if j < i then j else j + 1]? = some a := by
    intro j a h
    rw [List.getElem?_eraseIdx] at h
    split <;> rename_i c <;> simpa [c] using h
  refine ⟨?_, fun j a b ha hb => s.each _ a b (up j a ha) (up' j b hb), fun j k a b a' b' hjk ha hb ha' hb' => s.order _ _ a b a' b' ?_ (up j a ha) (up k b hb) (up' j a' ha') (up' k b' hb'), fun j a b ha hb => s.late _ a b (up j a ha) (up' j b hb), ?_⟩
  · rw [List.length_eraseIdx, List.length_eraseIdx, s.len]
  · split <;> split <;> omega
  · have key : ((q.eraseIdx i).flatMap qItems).Sublist (q.flatMap qItems) := by
      rw [List.eraseIdx_eq_take_drop_succ]
      conv => rhs; rw [← List.take_append_drop i q]
      rw [List.flatMap_append, List.flatMap_append]
      refine List.Sublist.append (List.Sublist.refl _) ?_
      cases hd : q.drop i with
      | nil => rw [← List.drop_drop, hd]; exact List.nil_sublist _
      | cons a r =>
        have e2 : q.drop (i + 1) = r := by rw [← List.drop_drop, hd]; rfl
        rw [e2, List.flatMap_cons]
        exact List.sublist_append_right _ _
    exact (key.map Item.id).nodup s.ids
/-- the specification's queue: the same rows, in order -/
structure Both (time : Int) (counter : Nat) (q : List QE) (ls : List Entry) : Prop where
  ex : ∃ es, Side time counter q es ∧ ls.Perm es ∧ Ord eKey ls
theorem Both.first {time : Int} {counter : Nat} {q : List QE} {ls : List Entry} (B : Both time counter q ls) {i : Nat} (hf : First (fun j => qKey (q.getD j ⟨0, 0, 0, .inl (0, .leaf [])⟩)) q.length i) :
    ∃ a e r, q[i]? = some a ∧ ls = e :: r ∧ Match a e ∧ Both time counter (q.eraseIdx i) r := by
  obtain ⟨es, s, p, o⟩ := B.ex
  have hi := hf.lt
  obtain ⟨a, ha⟩ : ∃ a, q[i]? = some a := ⟨_, List.getElem?_eq_getElem hi⟩
  have hi' : i < es.length := by rw [← s.len]; exact hi
  have hb : es[i]? = some es[i] := List.getElem?_eq_getElem hi'
  have hl := s.least hf hb
  have hmem : es[i] ∈ ls := p.mem_iff.mpr (List.getElem_mem hi')
  cases ls with
  | nil => cases hmem
  | cons e r =>
    have he : e = es[i] := by
      rcases List.mem_cons.mp hmem with z | z
      · exact z.symm
      · have h1 := (List.pairwise_cons.mp o).1 _ z
        obtain ⟨j, hj, ej⟩ := List.getElem_of_mem (p.mem_iff.mp (List.mem_cons_self (a := e) (l := r)))
        by_cases c : j = i
        · subst c; exact ej.symm
        · have h2 := hl j e c (by rw [List.getElem?_eq_getElem hj, ej])
          rw [h1] at h2; cases h2
    subst he
    refine ⟨a, _, r, ha, rfl, s.each i a _ ha hb, ⟨_, s.erase i, ?_, (List.pairwise_cons.mp o).2⟩⟩
    have p2 : (es[i] :: es.eraseIdx i).Perm es := by
      have e1 : es = es.take i ++ es[i] :: es.drop (i + 1) := by
        have h1 := List.take_append_drop i es
        rw [List.drop_eq_getElem_cons hi'] at h1
        exact h1.symm
      rw [List.eraseIdx_eq_take_drop_succ]
      conv => rhs; rw [e1]
      exact List.perm_middle.symm
    exact List.Perm.cons_inv (p.trans p2.symm)
/-- what the program keeps: all rows of another key -/
theorem Both.filter {time : Int} {counter : Nat} {q : List QE} {ls : List Entry} (B : Both time counter q ls) {i : Nat} {a : QE} (ha : q[i]? = some a) : q.filter (fun e => decide (qKey e ≠ qKey a)) = q.eraseIdx i := by
  obtain ⟨es, s, _, _⟩ := B.ex
  obtain ⟨hi, e⟩ := List.getElem?_eq_some_iff.mp ha
  have e1 : q = q.take i ++ a :: q.drop (i + 1) := by
    have h1 := List.take_append_drop i q
    rw [List.drop_eq_getElem_cons hi, e] at h1
    exact h1.symm
  have h1 : ∀ x ∈ q.take i, decide (qKey x ≠ qKey a) = true := by
    intro x hx
    obtain ⟨j, hj, ej⟩ := List.getElem_of_mem hx
    rw [List.length_take] at hj
    have : q[j]? = some x := by rw [List.getElem?_eq_getElem (by omega), ← ej, List.getElem_take]
    exact decide_eq_true (s.keys (by omega) this ha)
  have h2 : ∀ x ∈ q.drop (i + 1), decide (qKey x ≠ qKey a) = true := by
    intro x hx
    obtain ⟨j, hj, ej⟩ := List.getElem_of_mem hx
    have : q[i + 1 + j]? = some x := by
      rw [← List.getElem?_drop, List.getElem?_eq_getElem hj, ej]
    exact decide_eq_true (Ne.symm (s.keys (by omega) ha this))
  rw [List.eraseIdx_eq_take_drop_succ]
  conv => lhs; rw [e1]
  rw [List.filter_append, List.filter_cons, if_neg (by simp), List.filter_eq_self.mpr h1, List.filter_eq_self.mpr h2]
/-- the specification's rows for a node's entries -/
def leafE (b : Box) (items : List Item) : List Entry := items.map fun item => ⟨squaredDistance item.box b, 1, item.id, .inr item⟩
def nodeE (b : Box) (counter : Nat) (ch : List Tree) : List Entry := ch.zipIdx.map fun p => ⟨squaredDistance p.1.box b, 0, counter + p.2, .inl p.1⟩
def putE (ne : List Entry) (r : List Entry) : List Entry := ne.foldl (fun q e => insertEntry e q) r
/-- rows come behind; the times have gone on -/
theorem Both.append {time time' : Int} {counter counter' : Nat} {q : List QE} {ls : List Entry} (B : Both time counter q ls) {nq : List QE} {ne : List Entry} (hlen : nq.length = ne.length)
    (ht : time ≤ time') (hc : counter ≤ counter') (hm : ∀ (i : Nat) a b, nq[i]? = some a → ne[i]? = some b → Match a b)
    (ho : ∀ (i j : Nat) a b a' b', i < j → nq[i]? = some a → nq[j]? = some b → ne[i]? = some a' → ne[j]? = some b' → a.kind = 0 → b.kind = 0 → a.ord < b.ord ∧ a'.order < b'.order)
    (hl : ∀ (i : Nat) a b, nq[i]? = some a → ne[i]? = some b → a.kind = 0 → (time ≤ a.ord ∧ a.ord < time') ∧ counter ≤ b.order ∧ b.order < counter')
    (hid : ((q ++ nq).flatMap qItems |>.map Item.id).Nodup) : Both time' counter' (q ++ nq) (putE ne ls) := by
  obtain ⟨es, s, p, o⟩ := B.ex
  have ef : (fun (q : List Entry) e => insertEntry e q) = fun q e => insK eKey e q := by funext q e; exact insertEntry_eq e q
  refine ⟨es ++ ne, ⟨by rw [List.length_append, List.length_append, s.len, hlen], ?_, ?_, ?_, hid⟩, ?_, ?_⟩
  · intro i a b ha hb
    by_cases c : i < q.length
    · rw [List.getElem?_append_left c] at ha
      rw [List.getElem?_append_left (by rw [← s.len]; exact c)] at hb
      exact s.each i a b ha hb
    · rw [List.getElem?_append_right (by omega)] at ha
      rw [List.getElem?_append_right (by rw [← s.len]; omega), ← s.len] at hb
      exact hm _ a b ha hb
  · intro i j a b a' b' hij ha hb ha' hb' k1 k2
    by_cases c : j < q.length
    · rw [List.getElem?_append_left (by omega)] at ha
      rw [List.getElem?_append_left c] at hb
      rw [List.getElem?_append_left (by rw [← s.len]; omega)] at ha'
      rw [List.getElem?_append_left (by rw [← s.len]; exact c)] at hb'
      exact s.order i j a b a' b' hij ha hb ha' hb' k1 k2
    · rw [List.getElem?_append_right (by omega)] at hb
      rw [List.getElem?_append_right (by rw [← s.len]; omega), ← s.len] at hb'
      by_cases c2 : i < q.length
      · rw [List.getElem?_append_left c2] at ha
        rw [List.getElem?_append_left (by rw [← s.len]; exact c2)] at ha'
        have l1 := s.late i a a' ha ha' k1
        have l2 := hl _ b b' hb hb' k2
        omega
      · rw [List.getElem?_append_right (by omega)] at ha
        rw [List.getElem?_append_right (by rw [← s.len]; omega), ← s.len] at ha'
        exact ho _ _ a b a' b' (by omega) ha hb ha' hb' k1 k2
  · intro i a b ha hb k1
    by_cases c : i < q.length
    · rw [List.getElem?_append_left c] at ha
      rw [List.getElem?_append_left (by rw [← s.len]; exact c)] at hb
      have := s.late i a b ha hb k1
      omega
    · rw [List.getElem?_append_right (by omega)] at ha
      rw [List.getElem?_append_right (by rw [← s.len]; omega), ← s.len] at hb
      have := hl _ a b ha hb k1
      omega
  · unfold putE
    rw [ef]
    exact (foldK_perm ne ls).trans (p.append_right ne)
  · unfold putE
    rw [ef]
    exact foldK_ord o
/-- the rows for a node's entries -/
def rowsOf (b : Box) (time : Int) : LT → List QE
  | (_, .leaf items) => items.map fun it => ⟨squaredDistance it.box b, 1, (it.id : Int), .inr it⟩
  | (n, .node ch) => ch.zipIdx.map fun p => ⟨squaredDistance p.1.box b, 0, time + (p.2 : Int), .inl (n - 1, p.1)⟩
/-- the two searches go alike: what is still to come gives the whole -/
structure Near (b : Box) (k : Nat) (total : Nat × List (Nat × Int)) (steps : Nat) (q : List QE) (time : Int) (visited : Nat) (found : List (Nat × Int)) : Prop where
  ex : ∃ counter ls, (q.map qW).sum + 1 ≤ steps ∧ Both time counter q ls ∧ nearestFrom b k steps counter visited ls found = total
theorem near_end {b : Box} {k : Nat} {total : Nat × List (Nat × Int)} {steps : Nat} {q : List QE} {time : Int} {visited : Nat} {found : List (Nat × Int)} (N : Near b k total steps q time visited found) (h : k ≤ found.length ∨ q = []) : (visited, found) = total := by
  obtain ⟨counter, ls, hs, B, e⟩ := N.ex
  rw [← e]
  obtain ⟨steps, rfl⟩ : ∃ m, steps = m + 1 := ⟨steps - 1, by omega⟩
  by_cases c : k ≤ found.length
  · rw [nearestFrom.eq_def]
    dsimp only
    rw [if_pos c]
  · have hq := h.resolve_left c
    subst hq
    obtain ⟨es, s, p, _⟩ := B.ex
    have : es = [] := by
      have := s.len
      cases es with
      | nil => rfl
      | cons a r => simp at this
    subst this
    rw [List.perm_nil.mp p, nearestFrom.eq_def]
    dsimp only
    rw [if_neg c]
theorem sum_erase {q : List QE} {i : Nat} {a : QE} (ha : q[i]? = some a) : (q.map qW).sum = qW a + ((q.eraseIdx i).map qW).sum := by
  obtain ⟨hi, e⟩ := List.getElem?_eq_some_iff.mp ha
  have e1 : q = q.take i ++ a :: q.drop (i + 1) := by
    have h1 := List.take_append_drop i q
    rw [List.drop_eq_getElem_cons hi, e] at h1
    exact h1.symm
  rw [List.eraseIdx_eq_take_drop_succ]
  conv => lhs; rw [e1]
  rw [List.map_append, List.sum_append, List.map_cons, List.sum_cons, List.map_append, List.sum_append]
  omega
theorem near_item {b : Box} {k : Nat} {total : Nat × List (Nat × Int)} {steps : Nat} {q : List QE} {time : Int} {visited : Nat} {found : List (Nat × Int)} (N : Near b k total steps q time visited found) (hk : ¬ k ≤ found.length) {i : Nat}
    (hf : First (fun j => qKey (q.getD j ⟨0, 0, 0, .inl (0, .leaf [])⟩)) q.length i) {a : QE} {it : Item} (ha : q[i]? = some a) (hx : a.x = .inr it) : Near b k total (steps - 1) (q.filter fun e => decide (qKey e ≠ qKey a)) time visited (found ++ [(it.id, a.d)]) := by
  obtain ⟨counter, ls, hs, B, e⟩ := N.ex
  obtain ⟨a', en, r, ha', rfl, m, B'⟩ := B.first hf
  rw [ha] at ha'
  cases ha'
  obtain ⟨steps, rfl⟩ : ∃ m, steps = m + 1 := ⟨steps - 1, by omega⟩
  rw [nearestFrom, if_neg hk] at e
  rw [B.filter ha]
  have hw := sum_erase ha
  cases m with
  | node d o c x => cases hx
  | item d it' =>
    cases hx
    refine ⟨counter, r, ?_, B', e⟩
    have : qW ⟨d, 1, (it.id : Int), .inr it⟩ = 1 := rfl
    omega
theorem getElem?_zipIdx' {α : Type} (l : List α) (i : Nat) : l.zipIdx[i]? = l[i]?.map fun a => (a, i) := by
  rw [List.getElem?_zipIdx]
  cases l[i]? <;> simp
theorem flat_perm_erase {q : List QE} {i : Nat} {a : QE} (ha : q[i]? = some a) (nq : List QE) (h : (nq.flatMap qItems).Perm (qItems a)) : ((q.eraseIdx i ++ nq).flatMap qItems).Perm (q.flatMap qItems) := by
  obtain ⟨hi, e⟩ := List.getElem?_eq_some_iff.mp ha
  have e1 : q = q.take i ++ a :: q.drop (i + 1) := by
    have h1 := List.take_append_drop i q
    rw [List.drop_eq_getElem_cons hi, e] at h1
    exact h1.symm
  rw [List.eraseIdx_eq_take_drop_succ]
  conv => rhs; rw [e1]
  rw [List.flatMap_append, List.flatMap_append, List.flatMap_append, List.flatMap_cons, List.append_assoc]
  refine List.Perm.append_left _ ?_
  exact (List.perm_append_comm).trans (h.append_right _)
theorem near_leaf {b : Box} {k : Nat} {total : Nat × List (Nat × Int)} {steps : Nat} {q : List QE} {time : Int} {visited : Nat} {found : List (Nat × Int)} (N : Near b k total steps q time visited found) (hk : ¬ k ≤ found.length) {i : Nat}
    (hf : First (fun j => qKey (q.getD j ⟨0, 0, 0, .inl (0, .leaf [])⟩)) q.length i) {a : QE} {n : Nat} {items : List Item} (ha : q[i]? = some a) (hx : a.x = .inl (n, .leaf items)) (dt : Int) (hdt : 0 ≤ dt) :
    Near b k total (steps - 1) ((q.filter fun e => decide (qKey e ≠ qKey a)) ++ rowsOf b time (n, .leaf items)) (time + dt) (visited + 1) found := by
  obtain ⟨counter, ls, hs, B, e⟩ := N.ex
  obtain ⟨a', en, r, ha', rfl, m, B'⟩ := B.first hf
  rw [ha] at ha'
  cases ha'
  obtain ⟨steps, rfl⟩ : ∃ m, steps = m + 1 := ⟨steps - 1, by omega⟩
  rw [nearestFrom, if_neg hk] at e
  rw [B.filter ha]
  have hw := sum_erase ha
  cases m with
  | item d it' => cases hx
  | node d o c x =>
    cases hx
    dsimp only at e
    have ei : qItems ⟨d, 0, o, .inl (n, .leaf items)⟩ = items := by show itemsOfTree n (.leaf items) = items; cases n <;> rfl
    have er : (rowsOf b time (n, .leaf items)).flatMap qItems = items := by
      show (items.map _).flatMap qItems = items
      rw [List.flatMap_map]
      show items.flatMap (fun it => [it]) = items
      simp
    refine ⟨counter, putE (leafE b items) r, ?_, ?_, ?_⟩
    rotate_left
    · refine B'.append (time' := time + dt) (counter' := counter) (nq := rowsOf b time (n, .leaf items)) (ne := leafE b items) ?_ ?_ (Nat.le_refl _) ?_ ?_ ?_ ?_
      · simp [rowsOf, leafE]
      · omega
      · intro j x y hx hy
        simp only [rowsOf, leafE, List.getElem?_map, Option.map_eq_some_iff] at hx hy
        obtain ⟨it, h1, rfl⟩ := hx
        obtain ⟨it2, h2, rfl⟩ := hy
        rw [h1] at h2
        cases h2
        exact .item _ _
      · intro j l x y x' y' _ hx _ _ _ k1 _
        simp only [rowsOf, leafE, List.getElem?_map, Option.map_eq_some_iff] at hx
        obtain ⟨it, h1, rfl⟩ := hx
        simp at k1
      · intro j x y hx _ k1
        simp only [rowsOf, leafE, List.getElem?_map, Option.map_eq_some_iff] at hx
        obtain ⟨it, h1, rfl⟩ := hx
        simp at k1
      · obtain ⟨es, s, _, _⟩ := B.ex
        refine ((flat_perm_erase ha (rowsOf b time (n, .leaf items)) ?_).map Item.id).nodup_iff.mpr s.ids
        rw [er, ei]
    · unfold putE leafE
      rw [List.foldl_map]
      exact e
    · rw [List.map_append, List.sum_append]
      have e1 : ((rowsOf b time (n, .leaf items)).map qW).sum = items.length := by
        show ((items.map _).map qW).sum = _
        rw [List.map_map]
        have : ∀ l : List Item, (l.map (qW ∘ fun it => ⟨squaredDistance it.box b, 1, (it.id : Int), .inr it⟩)).sum = l.length := by
          intro l
          induction l with
          | nil => rfl
          | cons x l ih => rw [List.map_cons, List.sum_cons, ih, List.length_cons]; show 1 + _ = _; omega
        exact this items
      have e2 : qW ⟨d, 0, o, .inl (n, .leaf items)⟩ = items.length + 1 := by
        show (itemsOfTree n (.leaf items)).length + (nodesOfTree n (.leaf items)).length = _
        cases n <;> rfl
      omega
theorem sum_zipIdx {α : Type} (f : α → Nat) : ∀ (l : List α) (k : Nat), ((l.zipIdx k).map fun p => f p.1).sum = (l.map f).sum
  | [], _ => rfl
  | a :: l, k => by rw [List.zipIdx_cons, List.map_cons, List.sum_cons, List.map_cons, List.sum_cons, sum_zipIdx f l]
theorem flat_zipIdx {α β : Type} (f : α → List β) : ∀ (l : List α) (k : Nat), ((l.zipIdx k).flatMap fun p => f p.1) = l.flatMap f
  | [], _ => rfl
  | a :: l, k => by rw [List.zipIdx_cons, List.flatMap_cons, List.flatMap_cons, flat_zipIdx f l]
theorem near_node {b : Box} {k : Nat} {total : Nat × List (Nat × Int)} {steps : Nat} {q : List QE} {time : Int} {visited : Nat} {found : List (Nat × Int)} (N : Near b k total steps q time visited found) (hk : ¬ k ≤ found.length) {i : Nat}
    (hf : First (fun j => qKey (q.getD j ⟨0, 0, 0, .inl (0, .leaf [])⟩)) q.length i) {a : QE} {n : Nat} {ch : List Tree} (ha : q[i]? = some a) (hx : a.x = .inl (n + 1, .node ch)) :
    Near b k total (steps - 1) ((q.filter fun e => decide (qKey e ≠ qKey a)) ++ rowsOf b time (n + 1, .node ch)) (time + (ch.length : Int)) (visited + 1) found := by
  obtain ⟨counter, ls, hs, B, e⟩ := N.ex
  obtain ⟨a', en, r, ha', rfl, m, B'⟩ := B.first hf
  rw [ha] at ha'
  cases ha'
  obtain ⟨steps, rfl⟩ : ∃ m, steps = m + 1 := ⟨steps - 1, by omega⟩
  rw [nearestFrom, if_neg hk] at e
  rw [B.filter ha]
  have hw := sum_erase ha
  cases m with
  | item d it' => cases hx
  | node d o c x =>
    cases hx
    dsimp only at e
    have ei : qItems ⟨d, 0, o, .inl (n + 1, .node ch)⟩ = ch.flatMap (itemsOfTree n) := rfl
    have er : (rowsOf b time (n + 1, .node ch)).flatMap qItems = ch.flatMap (itemsOfTree n) := by
      show (ch.zipIdx.map _).flatMap qItems = _
      rw [List.flatMap_map]
      exact flat_zipIdx (itemsOfTree n) ch 0
    refine ⟨counter + ch.length, putE (nodeE b counter ch) r, ?_, ?_, ?_⟩
    rotate_left
    · refine B'.append (time' := time + (ch.length : Int)) (counter' := counter + ch.length) (nq := rowsOf b time (n + 1, .node ch)) (ne := nodeE b counter ch) ?_ ?_ ?_ ?_ ?_ ?_ ?_
      · simp [rowsOf, nodeE]
      · omega
      · omega
      · intro j x y hx hy
        simp only [rowsOf, nodeE, List.getElem?_map, getElem?_zipIdx', Option.map_map, Option.map_eq_some_iff] at hx hy
        obtain ⟨t, h1, rfl⟩ := hx
        obtain ⟨t2, h2, rfl⟩ := hy
        rw [h1] at h2
        cases h2
        exact .node _ _ _ (n, t)
      · intro j l x y x' y' hjl hx hy hx' hy' _ _
        simp only [rowsOf, nodeE, List.getElem?_map, getElem?_zipIdx', Option.map_map, Option.map_eq_some_iff] at hx hy hx' hy'
        obtain ⟨t, h1, rfl⟩ := hx
        obtain ⟨t2, h2, rfl⟩ := hy
        obtain ⟨t3, h3, rfl⟩ := hx'
        obtain ⟨t4, h4, rfl⟩ := hy'
        simp only [Function.comp]
        omega
      · intro j x y hx hy _
        simp only [rowsOf, nodeE, List.getElem?_map, getElem?_zipIdx', Option.map_map, Option.map_eq_some_iff] at hx hy
        obtain ⟨t, h1, rfl⟩ := hx
        obtain ⟨t2, h2, rfl⟩ := hy
        obtain ⟨hj, _⟩ := List.getElem?_eq_some_iff.mp h1
        simp only [Function.comp]
        omega
      · obtain ⟨es, s, _, _⟩ := B.ex
        refine ((flat_perm_erase ha (rowsOf b time (n + 1, .node ch)) ?_).map Item.id).nodup_iff.mpr s.ids
        rw [er, ei]
    · unfold putE nodeE
      rw [List.foldl_map]
      exact e
    · rw [List.map_append, List.sum_append]
      have e1 : ((rowsOf b time (n + 1, .node ch)).map qW).sum = (ch.map fun c => (itemsOfTree n c).length + nodesN n c).sum := by
        show ((ch.zipIdx.map _).map qW).sum = _
        rw [List.map_map]
        exact sum_zipIdx (fun c => (itemsOfTree n c).length + nodesN n c) ch 0
      have e2 : qW ⟨d, 0, o, .inl (n + 1, .node ch)⟩ = (ch.map fun c => (itemsOfTree n c).length + nodesN n c).sum + 1 := by
        show (ch.flatMap (itemsOfTree n)).length + (Tree.node ch :: ch.flatMap (nodesOfTree n)).length = _
        rw [List.length_cons]
        have : ∀ l : List Tree, (l.flatMap (itemsOfTree n)).length + (l.flatMap (nodesOfTree n)).length = (l.map fun c => (itemsOfTree n c).length + nodesN n c).sum := by
          intro l
          induction l with
          | nil => rfl
          | cons x l ih =>
            rw [List.flatMap_cons, List.flatMap_cons, List.length_append, List.length_append, List.map_cons, List.sum_cons]
            unfold nodesN at *
            omega
        have := this ch
        omega
      omega
/-- nodes are fewer than items -/
theorem nodes_full : ∀ (n : Nat) (t : Tree), Full n t → nodesN n t + 1 ≤ (itemsOfTree n t).length
  | 0, t, h => by
    obtain ⟨items, rfl⟩ := h.bal.leaf
    exact h.1
  | n + 1, t, h => by
    obtain ⟨ch, rfl, _⟩ := h.bal.node
    obtain ⟨⟨h2, _⟩, hf⟩ := h
    show (Tree.node ch :: ch.flatMap (nodesOfTree n)).length + 1 ≤ (ch.flatMap (itemsOfTree n)).length
    have key : ∀ (l : List Tree), (∀ c ∈ l, Full n c) → (l.flatMap (nodesOfTree n)).length + l.length ≤ (l.flatMap (itemsOfTree n)).length := by
      intro l hl
      induction l with
      | nil => simp
      | cons a r ih =>
        have ih := ih fun c hc => hl c (List.mem_cons_of_mem _ hc)
        have ha := nodes_full n a (hl a List.mem_cons_self)
        unfold nodesN at ha
        rw [List.flatMap_cons, List.flatMap_cons, List.length_append, List.length_append, List.length_cons]
        omega
    have := key ch hf
    rw [List.length_cons]; omega
theorem nodes_root {n : Nat} {t : Tree} (h : Root n t) : nodesN n t ≤ (itemsOfTree n t).length + 1 := by
  cases n with
  | zero =>
    obtain ⟨items, rfl⟩ := h.bal.leaf
    show 1 ≤ _; omega
  | succ n =>
    have hf : Full (n + 1) t := by
      cases t with
      | leaf items => exact h.elim
      | node ch => exact h
    have := nodes_full _ _ hf
    omega
/-- the queue at first -/
theorem near_start {n : Nat} {t : Tree} (g : GoodAt n t) (b : Box) (k : Nat) (h : t.items.isEmpty = false) : Near b k (Kvg6.nearest t b k) 400 [⟨squaredDistance t.box b, 0, 0, .inl (n, t)⟩] 1 0 [] := by
  refine ⟨1, _, ?_, ⟨[⟨squaredDistance t.box b, 0, 0, .inl t⟩], ⟨rfl, ?_, ?_, ?_, ?_⟩, List.Perm.refl _, List.pairwise_singleton _ _⟩, ?_⟩
  · show (itemsOfTree n t).length + nodesN n t + 0 + 1 ≤ 400
    have := nodes_root g.root
    have := g.size
    omega
  · intro i a c ha hc
    cases i with
    | zero => cases ha; cases hc; exact .node _ _ _ (n, t)
    | succ i => simp at ha
  · intro i j a c a' c' hij ha hc
    cases j with
    | zero => omega
    | succ j => simp at hc
  · intro i a c ha hc _
    cases i with
    | zero => cases ha; cases hc; exact ⟨(by decide : (0 : Int) < 1), (by decide : 0 < 1)⟩
    | succ i => simp at ha
  · show ((itemsOfTree n t ++ []).map Item.id).Nodup
    rw [List.append_nil]; exact g.nodup
  · unfold Kvg6.nearest
    rw [h]
    rfl
theorem qW_pos (e : QE) : 1 ≤ qW e := by
  unfold qW
  split
  · rename_i x _
    have : 1 ≤ nodesN x.1 x.2 := by
      unfold nodesN
      obtain ⟨n, t⟩ := x
      cases t with
      | leaf items => cases n <;> exact Nat.le_refl _
      | node ch =>
        cases n with
        | zero => show 1 ≤ (nodesOfTree 0 (.node ch)).length; simp [nodesOfTree]
        | succ n => show 1 ≤ (Tree.node ch :: ch.flatMap (nodesOfTree n)).length; rw [List.length_cons]; omega
    omega
  · exact Nat.le_refl _
theorem Near.len {b : Box} {k : Nat} {total : Nat × List (Nat × Int)} {steps : Nat} {q : List QE} {time : Int} {visited : Nat} {found : List (Nat × Int)} (N : Near b k total steps q time visited found) : q.length + 1 ≤ steps := by
  obtain ⟨counter, ls, hs, B, e⟩ := N.ex
  have : ∀ l : List QE, l.length ≤ (l.map qW).sum := by
    intro l
    induction l with
    | nil => exact Nat.le_refl _
    | cons a l ih =>
      have := qW_pos a
      rw [List.map_cons, List.sum_cons, List.length_cons]; omega
  have := this q
  omega
theorem near_empty {t : Tree} (b : Box) (k : Nat) (h : t.items.isEmpty = true) : Kvg6.nearest t b k = (0, []) := by
  unfold Kvg6.nearest
  rw [h]; rfl
end BF
namespace BF
open Kvg6
/-! ### M. all nodes with their levels -/
def sub : Nat → Tree → List (Nat × Tree)
  | n + 1, .node ch => (n + 1, .node ch) :: ch.flatMap (sub n)
  | n, t => [(n, t)]
theorem sub_leaf (n : Nat) (items : List Item) : sub n (.leaf items) = [(n, .leaf items)] := by cases n <;> rfl
theorem sub_node (n : Nat) (ch : List Tree) : sub (n + 1) (.node ch) = (n + 1, .node ch) :: ch.flatMap (sub n) := rfl
theorem flat_le {α β : Type} (f : α → List β) (B : Nat) : ∀ l : List α, (∀ c ∈ l, (f c).length ≤ B) → (l.flatMap f).length ≤ l.length * B
  | [], _ => by simp
  | c :: r, h => by
    have h1 := flat_le f B r fun x hx => h x (List.mem_cons_of_mem _ hx)
    have h2 := h c List.mem_cons_self
    rw [List.flatMap_cons, List.length_append, List.length_cons, Nat.succ_mul r.length]
    omega
theorem sub_thin : ∀ (n : Nat) (t : Tree), Thin n t → 3 * (sub n t).length + 1 ≤ 4 ^ (n + 1)
  | 0, .leaf items, _ => by
    show 3 * 1 + 1 ≤ 4 ^ 1
    omega
  | n + 1, .node ch, h => by
    have hp : 1 ≤ 4 ^ (n + 1) := Nat.pow_pos (by omega)
    have key : ∀ l : List Tree, (∀ c ∈ l, Thin n c) → 3 * (l.flatMap (sub n)).length + l.length ≤ l.length * 4 ^ (n + 1) := fun l => by
      induction l with
      | nil => intro _; simp
      | cons c r ih =>
        intro hl
        have a1 := sub_thin n c (hl c List.mem_cons_self)
        have a2 := ih fun x hx => hl x (List.mem_cons_of_mem _ hx)
        rw [List.flatMap_cons, List.length_append, List.length_cons, Nat.succ_mul r.length]
        generalize 4 ^ (n + 1) = W at *
        generalize r.length * W = RW at *
        omega
    have h1 := key ch h.2
    have h3 : ch.length * 4 ^ (n + 1) + (4 - ch.length) * 4 ^ (n + 1) = 4 * 4 ^ (n + 1) := by
      rw [← Nat.add_mul]
      congr 1
      have := h.1
      omega
    have h4 : (4 - ch.length) ≤ (4 - ch.length) * 4 ^ (n + 1) := Nat.le_mul_of_pos_right _ hp
    have e : 4 ^ (n + 1 + 1) = 4 * 4 ^ (n + 1) := by rw [Nat.pow_succ, Nat.mul_comm]
    have := h.1
    rw [e, sub_node, List.length_cons]
    omega
  | 0, .node _, h => h.elim
  | _ + 1, .leaf _, h => h.elim
theorem items_thin : ∀ (n : Nat) (t : Tree), Thin n t → (itemsOfTree n t).length ≤ 4 ^ (n + 1)
  | 0, .leaf items, h => h
  | n + 1, .node ch, h => by
    have h1 := flat_le (itemsOfTree n) (4 ^ (n + 1)) ch fun c hc => items_thin n c (h.2 c hc)
    have h2 : ch.length * 4 ^ (n + 1) ≤ 4 * 4 ^ (n + 1) := Nat.mul_le_mul_right _ h.1
    have e : 4 ^ (n + 1 + 1) = 4 * 4 ^ (n + 1) := by rw [Nat.pow_succ, Nat.mul_comm]
    rw [e]
    exact Nat.le_trans h1 h2
  | 0, .node _, h => h.elim
  | _ + 1, .leaf _, h => h.elim
theorem low_pow {n : Nat} (h : n ≤ 5) : 4 ^ (n + 1) ≤ 4096 := Nat.le_trans (Nat.pow_le_pow_right (by omega) (show n + 1 ≤ 6 by omega)) (by decide)
/-- what the leaves of a list of nodes hold -/
def leavesOf (l : List (Nat × Tree)) : List Item := l.flatMap fun q => match q.2 with
  | .leaf items => items
  | .node _ => []
theorem sub_items : ∀ (n : Nat) (t : Tree), Bal n t → leavesOf (sub n t) = itemsOfTree n t
  | 0, .leaf items, _ => by
    show items ++ [] = items
    simp
  | n + 1, .leaf items, h => h.elim
  | n + 1, .node ch, h => by
    rw [sub_node]
    show [] ++ leavesOf (ch.flatMap (sub n)) = ch.flatMap (itemsOfTree n)
    rw [List.nil_append]
    unfold leavesOf
    rw [List.flatMap_assoc]
    have key : ∀ l : List Tree, (∀ c ∈ l, Bal n c) → l.flatMap (fun c => leavesOf (sub n c)) = l.flatMap (itemsOfTree n) := fun l => by
      induction l with
      | nil => intro _; rfl
      | cons c r ih =>
        intro hl
        rw [List.flatMap_cons, List.flatMap_cons, sub_items n c (hl c List.mem_cons_self), ih fun x hx => hl x (List.mem_cons_of_mem _ hx)]
    exact key ch h
theorem sub_nodes : ∀ (n : Nat) (t : Tree), Bal n t → (sub n t).map Prod.snd = nodesOfTree n t
  | 0, .leaf items, _ => rfl
  | n + 1, .leaf items, h => h.elim
  | n + 1, .node ch, h => by
    rw [sub_node, List.map_cons]
    show _ :: _ = _ :: ch.flatMap (nodesOfTree n)
    congr 1
    have key : ∀ l : List Tree, (∀ c ∈ l, Bal n c) → (l.flatMap (sub n)).map Prod.snd = l.flatMap (nodesOfTree n) := fun l => by
      induction l with
      | nil => intro _; rfl
      | cons c r ih =>
        intro hl
        rw [List.flatMap_cons, List.flatMap_cons, List.map_append, sub_nodes n c (hl c List.mem_cons_self), ih fun x hx => hl x (List.mem_cons_of_mem _ hx)]
    exact key ch h
  | 0, .node _, h => h.elim
theorem sub_levels : ∀ (n : Nat) (t : Tree), NE n t → n ≤ 15 → ∀ m, n ≤ m → m ≤ 16 → (sub n t).map (fun q => (q.1 + 1, q.2)) = levelsOf m t
  | 0, .leaf items, h, _, m, _, _ => by
    cases m with
    | zero => rfl
    | succ m =>
      show [(0 + 1, Tree.leaf items)] = (Tree.height (.leaf items), Tree.leaf items) :: []
      rw [height_of (n := 0) h (by omega)]
  | n + 1, .leaf items, h, _, _, _, _ => h.elim
  | n + 1, .node ch, h, hn, 0, h0, _ => by omega
  | n + 1, .node ch, h, hn, m + 1, h0, h6 => by
    rw [sub_node, List.map_cons]
    show _ :: _ = (Tree.height (.node ch), Tree.node ch) :: ch.flatMap (levelsOf m)
    rw [height_of (n := n + 1) h (by omega)]
    congr 1
    have key : ∀ l : List Tree, (∀ c ∈ l, NE n c) → (l.flatMap (sub n)).map (fun q => (q.1 + 1, q.2)) = l.flatMap (levelsOf m) := fun l => by
      induction l with
      | nil => intro _; rfl
      | cons c r ih =>
        intro hl
        rw [List.flatMap_cons, List.flatMap_cons, List.map_append, sub_levels n c (hl c List.mem_cons_self) (by omega) m (by omega) (by omega), ih fun x hx => hl x (List.mem_cons_of_mem _ hx)]
    exact key ch h.2
  | 0, .node _, h, _, _, _, _ => h.elim
end BF
namespace BF
open Kvg6
theorem lvl_uniq : ∀ {m n : Nat} {t : Tree}, NE m t → Bal n t → m = n
  | 0, 0, _, _, _ => rfl
  | 0, n + 1, .leaf _, _, h => h.elim
  | 0, n + 1, .node _, h, _ => h.elim
  | m + 1, 0, .leaf _, h, _ => h.elim
  | m + 1, 0, .node _, _, h => h.elim
  | m + 1, n + 1, .leaf _, h, _ => h.elim
  | m + 1, n + 1, .node ch, h, g => by
    obtain ⟨h1, h2⟩ := h
    cases ch with
    | nil => exact absurd rfl h1
    | cons c r => rw [lvl_uniq (h2 c List.mem_cons_self) (g c List.mem_cons_self)]
theorem path_leaf (b : Box) (n : Nat) (items : List Item) : pathOf b n (.leaf items) = [] := by cases n <;> rfl
theorem path_node {b : Box} {n : Nat} {ch : List Tree} {c : Tree} (h : ch[pickCh ch b]? = some c) : pathOf b (n + 1) (.node ch) = pickCh ch b :: pathOf b n c := by
  show pickCh ch b :: (match ch[pickCh ch b]? with
    | some child => pathOf b n child
    | none => []) = _
  rw [h]
theorem path_fuel (b : Box) : ∀ (n : Nat) (t : Tree), NE n t → ∀ m, n ≤ m → pathOf b m t = pathOf b n t
  | 0, .leaf items, _, m, _ => by rw [path_leaf, path_leaf]
  | 0, .node _, h, _, _ => h.elim
  | n + 1, .leaf _, h, _, _ => h.elim
  | n + 1, .node ch, h, 0, h0 => by omega
  | n + 1, .node ch, h, m + 1, h0 => by
    have hl : pickCh ch b < ch.length := by
      have := choose_lt (boxes := ch.map Tree.box) (b := b) (by rw [List.length_map]; exact List.length_pos_iff.mpr h.1)
      rwa [List.length_map] at this
    have e : ch[pickCh ch b]? = some (ch[pickCh ch b]'hl) := List.getElem?_eq_getElem hl
    rw [path_node e, path_node e, path_fuel b n _ (h.2 _ (List.getElem_mem hl)) m (by omega)]
theorem has_find {n : Nat} {t : Tree} {id : Nat} : ((itemsOfTree n t).find? fun it => it.id == id).isSome = has n t id := by
  rw [Bool.eq_iff_iff, List.find?_isSome]
  simp [has]
end BF
namespace BF
open Kvg6
/-! ### boxes and items that are handed in -/
theorem boxOf_some {ns : List Int} {b : Box} (h : boxOf ns = some b) : ns = [b.x0, b.y0, b.x1, b.y1] ∧ BoxOk b := by
  unfold boxOf at h
  split at h
  · rename_i x0 y0 x1 y1
    split at h
    · rename_i c
      cases h
      simp only [List.all_cons, List.all_nil, Bool.and_true, Bool.and_eq_true, decide_eq_true_eq] at c
      obtain ⟨⟨⟨c1, c2, c3, c4⟩, c5⟩, c6⟩ := c
      unfold isCoordinate at c1 c2 c3 c4
      simp only [Bool.and_eq_true, decide_eq_true_eq] at c1 c2 c3 c4
      refine ⟨rfl, ⟨?_, ?_, ?_⟩, ?_, ?_, ?_⟩ <;> dsimp only <;> omega
    · cases h
  · cases h
theorem boxOf_four (x0 y0 x1 y1 : Int) : (boxOf [x0, y0, x1, y1]).isSome = ([x0, y0, x1, y1].all isCoordinate && (decide (x0 ≤ x1) && decide (y0 ≤ y1))) := by
  show (if (([x0, y0, x1, y1].all isCoordinate && decide (x0 ≤ x1)) && decide (y0 ≤ y1)) = true then some (⟨x0, y0, x1, y1⟩ : Box) else none).isSome = _
  rw [← Bool.and_assoc]
  generalize (([x0, y0, x1, y1].all isCoordinate && decide (x0 ≤ x1)) && decide (y0 ≤ y1)) = c
  cases c <;> rfl
theorem boxOf_len {ns : List Int} (h : ns.length ≠ 4) : boxOf ns = none := by
  unfold boxOf
  split
  · exact absurd rfl h
  · rfl
/-- a row's number and box are good -/
def rowOk (r : List Int) : Bool := (decide (0 ≤ r.getD 0 0) && decide (r.getD 0 0 ≤ 65535)) && (boxOf r.tail).isSome
def rowItem (r : List Int) : Item := ⟨(r.getD 0 0).toNat, (boxOf r.tail).getD ⟨0, 0, 0, 0⟩⟩
def rws5 (m : Nat) (ns : List Int) : List (List Int) := (List.range m).map fun k => (ns.drop (5 * k)).take 5
theorem rws5_succ (m : Nat) (a b c d e : Int) (l : List Int) : rws5 (m + 1) (a :: b :: c :: d :: e :: l) = [a, b, c, d, e] :: rws5 m l := by
  unfold rws5
  rw [List.range_succ_eq_map, List.map_cons, List.map_map]
  congr 1
theorem five_of {l : List Int} {m : Nat} (h : l.length = 5 * (m + 1)) : ∃ a b c d e r, l = a :: b :: c :: d :: e :: r ∧ r.length = 5 * m := by
  rcases l with _ | ⟨a, _ | ⟨b, _ | ⟨c, _ | ⟨d, _ | ⟨e, r⟩⟩⟩⟩⟩
  · simp at h
  · simp at h; omega
  · simp at h; omega
  · simp at h; omega
  · simp at h; omega
  · exact ⟨a, b, c, d, e, r, rfl, by simp at h; omega⟩
theorem itemsOf_rows : ∀ (m : Nat) (f : Nat) (ns : List Int), ns.length = 5 * m → m ≤ f → itemsOf f ns = if (rws5 m ns).all rowOk then some ((rws5 m ns).map rowItem) else none
  | 0, f, ns, h, _ => by
    have e : ns = [] := List.eq_nil_of_length_eq_zero (by omega)
    subst e
    cases f <;> rfl
  | m + 1, f, ns, h, hf => by
    obtain ⟨a, b, c, d, e, r, rfl, hr⟩ := five_of h
    obtain ⟨f, rfl⟩ : ∃ n, f = n + 1 := ⟨f - 1, by omega⟩
    rw [itemsOf, itemsOf_rows m f r hr (by omega), rws5_succ, List.all_cons, List.map_cons]
    have e1 : rowOk [a, b, c, d, e] = ((decide (0 ≤ a) && decide (a ≤ 65535)) && (boxOf [b, c, d, e]).isSome) := rfl
    have e2 : rowItem [a, b, c, d, e] = ⟨a.toNat, (boxOf [b, c, d, e]).getD ⟨0, 0, 0, 0⟩⟩ := rfl
    rw [e1, e2]
    cases hb : boxOf [b, c, d, e] with
    | none => simp
    | some bx =>
      cases ha : (rws5 m r).all rowOk with
      | false => simp
      | true =>
        by_cases c1 : a < 0 ∨ 65535 < a
        · have : ¬ (0 ≤ a ∧ a ≤ 65535) := by omega
          simp [c1]
          omega
        · have h1 : 0 ≤ a := by omega
          have h2 : a ≤ 65535 := by omega
          simp [c1, h1, h2]
theorem itemsOf_not : ∀ (f : Nat) (ns : List Int), ns.length % 5 ≠ 0 → itemsOf f ns = none
  | f, [], h => absurd rfl h
  | 0, _ :: _, _ => by rw [itemsOf] <;> simp
  | f + 1, [_], _ => rfl
  | f + 1, [_, _], _ => rfl
  | f + 1, [_, _, _], _ => rfl
  | f + 1, [_, _, _, _], _ => rfl
  | f + 1, a :: b :: c :: d :: e :: l, h => by
    rw [itemsOf, itemsOf_not f l (by simp at h; omega)]
    cases boxOf [b, c, d, e] <;> rfl
theorem rowItem_ok {r : List Int} (h : rowOk r = true) : ItOk (rowItem r) ∧ ((rowItem r).id : Int) = r.getD 0 0 ∧ r.tail = [(rowItem r).box.x0, (rowItem r).box.y0, (rowItem r).box.x1, (rowItem r).box.y1] := by
  unfold rowOk at h
  simp only [Bool.and_eq_true, decide_eq_true_eq] at h
  obtain ⟨⟨h1, h2⟩, h3⟩ := h
  obtain ⟨b, hb⟩ := Option.isSome_iff_exists.mp h3
  obtain ⟨e1, e2⟩ := boxOf_some hb
  have e3 : (rowItem r).box = b := by
    show (boxOf r.tail).getD _ = b
    rw [hb]
    rfl
  refine ⟨⟨by rw [e3]; exact e2, ?_⟩, ?_, by rw [e3]; exact e1⟩
  · show (r.getD 0 0).toNat ≤ 65535
    omega
  · show ((r.getD 0 0).toNat : Int) = _
    omega
end BF
namespace BF
open Kvg6
/-! ### O. histograms and estimates -/
theorem cellOf_eq {size : Nat} (low high doubled : Int) (h : 1 ≤ size) : (cellOf size low high doubled : Int) = min (max ((doubled - 2 * low) * size / (2 * (high - low))) 0) ((size : Int) - 1) := by
  unfold cellOf
  omega
theorem cellOf_lt {size : Nat} (low high doubled : Int) (h : 1 ≤ size) : cellOf size low high doubled < size := by
  have := cellOf_eq low high doubled h
  omega
/-- the cell of an item -/
def cellIx (size : Nat) (e : Box) (it : Item) : Nat := cellOf size e.y0 e.y1 (it.box.y0 + it.box.y1) * size + cellOf size e.x0 e.x1 (it.box.x0 + it.box.x1)
theorem cellIx_lt {size : Nat} (e : Box) (it : Item) (h : 1 ≤ size) : cellIx size e it < size * size := by
  have h1 := cellOf_lt e.x0 e.x1 (it.box.x0 + it.box.x1) h
  have h2 := cellOf_lt e.y0 e.y1 (it.box.y0 + it.box.y1) h
  unfold cellIx
  have h3 : (cellOf size e.y0 e.y1 (it.box.y0 + it.box.y1) + 1) * size ≤ size * size := Nat.mul_le_mul_right _ h2
  rw [Nat.add_mul, Nat.one_mul] at h3
  omega
theorem cell_iff {size x y c : Nat} (hx : x < size) : (x == c % size && y == c / size) = (c == y * size + x) := by
  rw [Bool.eq_iff_iff, Bool.and_eq_true, beq_iff_eq, beq_iff_eq, beq_iff_eq]
  constructor
  · rintro ⟨rfl, rfl⟩
    have := Nat.div_add_mod c size
    rw [Nat.mul_comm] at this
    exact this.symm
  · rintro rfl
    refine ⟨?_, ?_⟩
    · rw [Nat.add_comm, Nat.add_mul_mod_self_right, Nat.mod_eq_of_lt hx]
    · rw [Nat.add_comm, Nat.add_mul_div_right _ _ (by omega), Nat.div_eq_of_lt hx, Nat.zero_add]
theorem hist_eq (items : List Item) {size : Nat} (e : Box) (h : 1 ≤ size) : Kvg6.histogram items size e = (List.range (size * size)).map fun c => (items.filter fun it => c == cellIx size e it).length := by
  unfold Kvg6.histogram
  refine List.map_congr_left fun c _ => ?_
  congr 1
  refine List.filter_congr fun it _ => ?_
  exact cell_iff (cellOf_lt _ _ _ h)
theorem hist_nil {size : Nat} (e : Box) (h : 1 ≤ size) : Kvg6.histogram [] size e = List.replicate (size * size) 0 := by
  rw [hist_eq _ _ h]
  refine List.ext_getElem (by simp) fun i h1 h2 => ?_
  simp
theorem hist_len (items : List Item) (size : Nat) (e : Box) : (Kvg6.histogram items size e).length = size * size := by
  unfold Kvg6.histogram
  simp
theorem hist_snoc (l : List Item) (it : Item) {size : Nat} (e : Box) (h : 1 ≤ size) : Kvg6.histogram (l ++ [it]) size e = (Kvg6.histogram l size e).set (cellIx size e it) ((Kvg6.histogram l size e).getD (cellIx size e it) 0 + 1) := by
  have hc := cellIx_lt e it h
  rw [hist_eq _ _ h, hist_eq _ _ h]
  refine List.ext_getElem (by simp) fun i h1 h2 => ?_
  rw [List.getElem_set, List.getElem_map, List.getElem_map, List.getElem_range]
  rw [List.filter_append, List.length_append]
  by_cases c : cellIx size e it = i
  · rw [if_pos c]
    subst c
    have : ((List.range (size * size)).map fun c => (l.filter fun it => c == cellIx size e it).length).getD (cellIx size e it) 0 = (l.filter fun x => cellIx size e it == cellIx size e x).length := by
      rw [List.getD_eq_getElem?_getD, List.getElem?_map, List.getElem?_range hc]
      rfl
    rw [this]
    simp
  · rw [if_neg c]
    have : (i == cellIx size e it) = false := by rw [beq_eq_false_iff_ne]; omega
    rw [List.filter_cons, this]
    simp
theorem hist_le (items : List Item) (size : Nat) (e : Box) : ∀ n ∈ Kvg6.histogram items size e, n ≤ items.length := by
  intro n hn
  unfold Kvg6.histogram at hn
  obtain ⟨c, _, rfl⟩ := List.mem_map.mp hn
  exact List.length_filter_le _ _
/-! estimates -/
def shN (size : Nat) (low high w0 w1 : Int) (i : Nat) : Int := max 0 (min (low * size + (high - low) * (i + 1 : Nat)) (w1 * size) - max (low * size + (high - low) * i) (w0 * size))
theorem share_eq (size : Nat) (low high w0 w1 : Int) (i : Nat) : share size low high w0 w1 i = (shN size low high w0 w1 i : Rat) / ((high - low : Int) : Rat) := rfl
theorem shN_nn (size : Nat) (low high w0 w1 : Int) (i : Nat) : 0 ≤ shN size low high w0 w1 i := by unfold shN; omega
theorem shN_le (size : Nat) {low high : Int} (w0 w1 : Int) (i : Nat) (h : low < high) : shN size low high w0 w1 i ≤ high - low := by
  unfold shN
  have : (high - low) * ((i + 1 : Nat) : Int) = (high - low) * i + (high - low) := by
    rw [Int.natCast_add, Int.mul_add]; simp
  rw [this]
  omega
def topOf (size : Nat) (e w : Box) (p : Nat × Nat) : Int := (p.1 : Int) * shN size e.x0 e.x1 w.x0 w.x1 (p.2 % size) * shN size e.y0 e.y1 w.y0 w.y1 (p.2 / size)
def topSum (size : Nat) (e w : Box) (l : List (Nat × Nat)) : Int := l.foldl (fun t p => t + topOf size e w p) 0
theorem rat_sum {α : Type} {D : Int} (f : α → Rat) (g : α → Int) (hf : ∀ p, f p = ((g p : Int) : Rat) / (D : Rat)) : ∀ (l : List α) (acc : Int), (l.map f).foldl (· + ·) ((acc : Rat) / (D : Rat)) = ((l.foldl (fun t p => t + g p) acc : Int) : Rat) / (D : Rat)
  | [], acc => rfl
  | a :: l, acc => by
    rw [List.map_cons, List.foldl_cons, List.foldl_cons, ← rat_sum f g hf l (acc + g a), hf a]
    congr 1
    rw [Rat.intCast_add, Rat.div_def, Rat.div_def, Rat.div_def, Rat.add_mul]
theorem est_eq (items : List Item) (size : Nat) (e w : Box) : Kvg6.estimate items size e w = ((topSum size e w (Kvg6.histogram items size e).zipIdx : Int) : Rat) / (((e.x1 - e.x0) * (e.y1 - e.y0) : Int) : Rat) := by
  unfold Kvg6.estimate topSum
  rw [← rat_sum (D := (e.x1 - e.x0) * (e.y1 - e.y0)) _ (topOf size e w) ?_ _ 0]
  · congr 1
    rw [Rat.div_def]; simp
  · rintro ⟨n, c⟩
    show (n : Rat) * share _ _ _ _ _ _ * share _ _ _ _ _ _ = _
    rw [share_eq, share_eq]
    unfold topOf
    rw [Rat.intCast_mul, Rat.intCast_mul, Rat.intCast_mul]
    rw [Rat.div_def, Rat.div_def, Rat.div_def, Rat.inv_mul_rev]
    have : ((n : Int) : Rat) = (n : Rat) := rfl
    rw [this]
    grind
theorem est_num (items : List Item) {size : Nat} {e w : Box} {t b : Int} (ht : topSum size e w (Kvg6.histogram items size e).zipIdx = t) (hb : (e.x1 - e.x0) * (e.y1 - e.y0) = b) (h : 0 < b) :
    (Kvg6.estimate items size e w).num = t / (Int.gcd t b : Int) ∧ ((Kvg6.estimate items size e w).den : Int) = b / (Int.gcd t b : Int) := by
  rw [est_eq, ht, hb, ← Rat.divInt_eq_div, Rat.num_divInt, Rat.den_divInt, Int.gcd_comm b t, Int.sign_eq_one_of_pos h, Int.one_mul, if_neg (by omega)]
  refine ⟨rfl, ?_⟩
  rw [Int.natCast_ediv]
  congr 1
  omega
theorem topSum_snoc (size : Nat) (e w : Box) (l : List (Nat × Nat)) (p : Nat × Nat) : topSum size e w (l ++ [p]) = topSum size e w l + topOf size e w p := by
  unfold topSum
  rw [List.foldl_append]
  rfl
theorem topOf_nn (size : Nat) (e w : Box) (p : Nat × Nat) : 0 ≤ topOf size e w p := by
  unfold topOf
  exact Int.mul_nonneg (Int.mul_nonneg (by omega) (shN_nn ..)) (shN_nn ..)
theorem topSum_nn (size : Nat) (e w : Box) (l : List (Nat × Nat)) : 0 ≤ topSum size e w l := by
  unfold topSum
  have : ∀ (l : List (Nat × Nat)) (a : Int), 0 ≤ a → 0 ≤ l.foldl (fun t p => t + topOf size e w p) a := by
    intro l
    induction l with
    | nil => exact fun a h => h
    | cons p l ih => exact fun a h => ih _ (by show 0 ≤ a + topOf size e w p; have := topOf_nn size e w p; omega)
  exact this l 0 (Int.le_refl _)
end BF
namespace BF
open Kvg6
/-! ### P. as many are found as are asked for -/
def QOk (e : QE) : Prop := match e.x with
  | .inl x => Bal x.1 x.2
  | .inr _ => True
abbrev qk0 (q : List QE) (j : Nat) : List Int := qKey (q.getD j ⟨0, 0, 0, .inl (0, .leaf [])⟩)
theorem first_ex (q : List QE) (h : q ≠ []) : ∃ i, First (qk0 q) q.length i := by
  have hl : 0 < (q.map qKey).length := by
    rw [List.length_map]
    cases q with
    | nil => exact absurd rfl h
    | cons a r => exact Nat.succ_pos _
  have hf := firstLeast_first (q.map qKey) hl
  rw [List.length_map] at hf
  refine ⟨_, hf.congr fun j hj => ?_⟩
  rw [List.getD_eq_getElem?_getD, List.getElem?_map, List.getElem?_eq_getElem hj]
  show qKey q[j] = qKey (q.getD j _)
  rw [List.getD_eq_getElem?_getD, List.getElem?_eq_getElem hj]
  rfl
/-- what is left is no less than the others' items -/
theorem filter_items {q : List QE} {a : QE} {i : Nat} (ha : q[i]? = some a) (h : q.filter (fun e => decide (qKey e ≠ qKey a)) = q.eraseIdx i) : ((q.filter fun e => decide (qKey e ≠ qKey a)).flatMap qItems).length + (qItems a).length = (q.flatMap qItems).length := by
  rw [h]
  have := (flat_perm_erase ha [a] (by simp)).length_eq
  rw [List.flatMap_append, List.length_append] at this
  simpa using this
theorem rows_items (b : Box) (time : Int) {x : LT} (h : Bal x.1 x.2) : ((rowsOf b time x).flatMap qItems).length = (itemsOfTree x.1 x.2).length := by
  obtain ⟨n, t⟩ := x
  cases t with
  | leaf items =>
    show ((items.map _).flatMap qItems).length = _
    rw [List.flatMap_map]
    show (items.flatMap fun it => [it]).length = _
    have : itemsOfTree n (.leaf items) = items := by cases n <;> rfl
    show _ = (itemsOfTree n (.leaf items)).length
    rw [this]
    simp
  | node ch =>
    cases n with
    | zero => exact h.elim
    | succ n =>
      show ((ch.zipIdx.map _).flatMap qItems).length = (ch.flatMap (itemsOfTree n)).length
      rw [List.flatMap_map]
      exact congrArg List.length (flat_zipIdx (itemsOfTree n) ch 0)
theorem rows_ok (b : Box) (time : Int) {x : LT} (h : Bal x.1 x.2) : ∀ e ∈ rowsOf b time x, QOk e := by
  intro e he
  obtain ⟨n, t⟩ := x
  cases t with
  | leaf items =>
    obtain ⟨it, _, rfl⟩ := List.mem_map.mp he
    exact trivial
  | node ch =>
    cases n with
    | zero => exact h.elim
    | succ n =>
      obtain ⟨p, hp, rfl⟩ := List.mem_map.mp he
      have hm : p.1 ∈ ch := by
        obtain ⟨j, hj⟩ := List.getElem?_of_mem hp
        rw [getElem?_zipIdx'] at hj
        obtain ⟨y, h1, rfl⟩ := Option.map_eq_some_iff.mp hj
        exact List.mem_of_getElem? h1
      exact h p.1 hm
theorem near_total {b : Box} {k : Nat} {total : Nat × List (Nat × Int)} : ∀ (steps : Nat) {q : List QE} {time : Int} {visited : Nat} {found : List (Nat × Int)}, Near b k total steps q time visited found → found.length ≤ k → k ≤ found.length + (q.flatMap qItems).length → (∀ e ∈ q, QOk e) → total.2.length = k := by
  intro steps
  induction steps with
  | zero =>
    intro q time visited found N _ _ _
    have := N.len
    omega
  | succ steps ih =>
    intro q time visited found N h1 h2 ok
    by_cases c : k ≤ found.length
    · have e := near_end N (.inl c)
      rw [← e]
      show found.length = k
      omega
    · have hq : q ≠ [] := fun z => by rw [z] at h2; simp at h2; omega
      obtain ⟨i, hf⟩ := first_ex q hq
      obtain ⟨a, ha⟩ : ∃ a, q[i]? = some a := ⟨_, List.getElem?_eq_getElem hf.lt⟩
      have hfl : q.filter (fun e => decide (qKey e ≠ qKey a)) = q.eraseIdx i := by
        obtain ⟨counter, ls, hs, B, e⟩ := N.ex
        exact B.filter ha
      have hcnt := filter_items ha hfl
      have okf : ∀ e ∈ q.filter (fun e => decide (qKey e ≠ qKey a)), QOk e := fun e he => ok e (List.mem_filter.mp he).1
      have oka := ok a (List.mem_of_getElem? ha)
      unfold QOk at oka
      cases hx : a.x with
      | inr it =>
        have N' := near_item N c hf ha hx
        refine ih N' (by rw [List.length_append, List.length_singleton]; omega) ?_ okf
        have : (qItems a).length = 1 := by unfold qItems; rw [hx]; rfl
        rw [List.length_append, List.length_singleton]
        omega
      | inl x =>
        rw [hx] at oka
        obtain ⟨n, t⟩ := x
        have oka : Bal n t := oka
        have hia : (qItems a).length = (itemsOfTree n t).length := by unfold qItems; rw [hx]
        have hr : ((rowsOf b time (n, t)).flatMap qItems).length = (itemsOfTree n t).length := rows_items b time (x := (n, t)) oka
        have hro := rows_ok b time (x := (n, t)) oka
        have fin : ∀ {tm vs}, Near b k total (steps + 1 - 1) ((q.filter fun e => decide (qKey e ≠ qKey a)) ++ rowsOf b time (n, t)) tm vs found → total.2.length = k := fun N' => by
          refine ih N' h1 ?_ fun e he => ?_
          · rw [List.flatMap_append, List.length_append]
            omega
          · rcases List.mem_append.mp he with he | he
            · exact okf e he
            · exact hro e he
        cases t with
        | leaf items => exact fin (near_leaf N c hf ha hx 0 (Int.le_refl _))
        | node ch =>
          cases n with
          | zero => exact oka.elim
          | succ n => exact fin (near_node N c hf ha hx)
theorem nearest_one {n : Nat} {t : Tree} (g : GoodAt n t) (b : Box) (h : t.items.isEmpty = false) : (Kvg6.nearest t b 1).2.length = 1 := by
  refine near_total 400 (near_start g b 1 h) (Nat.zero_le _) ?_ fun e he => ?_
  · show 1 ≤ 0 + (itemsOfTree n t ++ []).length
    rw [List.append_nil]
    rw [g.items] at h
    cases e : itemsOfTree n t with
    | nil => rw [e] at h; simp at h
    | cons _ _ => simp
  · rw [List.mem_singleton.mp he]
    exact g.root.bal
end BF
namespace BF
open Kvg6
/-! ### the calls, read off one list -/
theorem whole_id (c : List (List Int)) : PyKvg6.whole c = c := by
  unfold PyKvg6.whole
  split <;> rfl
theorem row_inv {l x s : List Int} (h : PyFlat.row l = some (x, s)) : ∃ (n : Nat) (r : List Int), l = (n : Int) :: r ∧ n ≤ r.length ∧ x = r.take n ∧ s = r.drop n := by
  unfold PyFlat.row at h
  split at h
  · cases h
  · rename_i n r
    split at h
    · rename_i c
      injection h with h
      injection h with h1 h2
      obtain ⟨m, rfl⟩ := Int.eq_ofNat_of_zero_le c.1
      exact ⟨m, r, rfl, c.2, h1.symm, h2.symm⟩
    · cases h
theorem rows_succ {k : Nat} {l t : List Int} {xs : List (List Int)} (h : PyFlat.rows (k + 1) l = some (xs, t)) : ∃ x s ys, PyFlat.row l = some (x, s) ∧ PyFlat.rows k s = some (ys, t) ∧ xs = x :: ys := by
  unfold PyFlat.rows at h
  split at h
  · cases h
  · rename_i x s hx
    split at h
    · cases h
    · rename_i ys t' hy
      injection h with h
      injection h with h1 h2
      subst h1 h2
      exact ⟨x, s, ys, hx, hy, rfl⟩
/-- rows that begin at a place of a longer list -/
theorem rows_at {L : List Int} : ∀ {k p : Nat} {xs : List (List Int)} {t : List Int}, p ≤ L.length → PyFlat.rows k (L.drop p) = some (xs, t) → ∃ q, p ≤ q ∧ q ≤ L.length ∧ t = L.drop q ∧ xs.length = k
  | 0, p, xs, t, hp, h => by
    injection h with h
    injection h with h1 h2
    subst h1 h2
    exact ⟨p, Nat.le_refl _, hp, rfl, rfl⟩
  | k + 1, p, xs, t, hp, h => by
    obtain ⟨x, s, ys, h1, h2, rfl⟩ := rows_succ h
    obtain ⟨n, r, e, hn, rfl, rfl⟩ := row_inv h1
    have hlen := congrArg List.length e
    rw [List.length_drop, List.length_cons] at hlen
    have er : r = L.drop (p + 1) := by
      have := congrArg (List.drop 1) e
      rw [List.drop_drop] at this
      exact this.symm
    rw [er, List.drop_drop] at h2
    obtain ⟨q, q1, q2, q3, q4⟩ := rows_at (p := p + 1 + n) (by omega) h2
    exact ⟨q, by omega, q2, q3, by rw [List.length_cons, q4]⟩
/-- one row at a place -/
theorem row_at {L : List Int} {p : Nat} {x s : List Int} (h : PyFlat.row (L.drop p) = some (x, s)) : ∃ n : Nat, L[p]? = some (n : Int) ∧ p + 1 + n ≤ L.length ∧ x = (L.drop (p + 1)).take n ∧ s = L.drop (p + 1 + n) := by
  obtain ⟨n, r, e, hn, rfl, rfl⟩ := row_inv h
  have hlen := congrArg List.length e
  rw [List.length_drop, List.length_cons] at hlen
  have er : r = L.drop (p + 1) := by
    have := congrArg (List.drop 1) e
    rw [List.drop_drop] at this
    exact this.symm
  refine ⟨n, ?_, by omega, by rw [er], by rw [er, List.drop_drop]⟩
  have := congrArg (fun l => l[0]?) e
  simp only [List.getElem?_drop, Nat.add_zero, List.getElem?_cons_zero] at this
  exact this
theorem call_inv {sh : Int → Option (Nat × Nat)} {p : Int} {r : List Int} {c : List (List Int)} {t : List Int} (h : PyFlat.call sh (p :: r) = some (c, t)) : ∃ n k xs, sh p = some (n, k) ∧ n ≤ r.length ∧ PyFlat.rows k (r.drop n) = some (xs, t) ∧ c = (p :: r.take n) :: xs := by
  unfold PyFlat.call at h
  split at h
  · rename_i e
    cases e
  · rename_i p' r' e
    injection e with e1 e2
    subst e1 e2
    split at h
    · cases h
    · rename_i n k hs
      split at h
      · cases h
      · rename_i hn
        split at h
        · cases h
        · rename_i xs t' hr
          injection h with h
          injection h with h1 h2
          subst h1 h2
          exact ⟨n, k, xs, hs, by omega, hr, rfl⟩
theorem calls_inv {sh : Int → Option (Nat × Nat)} : ∀ {f : Nat} {p : Int} {r : List Int} {cs : List (List (List Int))}, PyFlat.calls sh f (p :: r) = some cs → ∃ f' c t cs', PyFlat.call sh (p :: r) = some (c, t) ∧ PyFlat.calls sh f' t = some cs' ∧ cs = c :: cs'
  | 0, p, r, cs, h => by
    unfold PyFlat.calls at h
    cases h
  | f + 1, p, r, cs, h => by
    unfold PyFlat.calls at h
    split at h
    · cases h
    · rename_i c t hc
      split at h
      · cases h
      · rename_i cs' hs
        injection h with h
        exact ⟨f, c, t, cs', hc, hs, h.symm⟩
theorem calls_nil {sh : Int → Option (Nat × Nat)} {f : Nat} {cs : List (List (List Int))} (h : PyFlat.calls sh f [] = some cs) : cs = [] := by
  unfold PyFlat.calls at h
  cases f <;> exact (Option.some.inj h).symm
/-- what the calls from a place on answer -/
def tailOf (st : Kvg6.State) (cs : List (List (List Int))) : List Int := PyFlat.told (PyFlat.played Kvg6Neutral.step st cs)
theorem tail_cons (st : Kvg6.State) (c : List (List Int)) (cs : List (List (List Int))) : tailOf st (c :: cs) = ((Kvg6Neutral.step st c).2.length : Int) :: ((Kvg6Neutral.step st c).2 ++ tailOf (Kvg6Neutral.step st c).1 cs) := rfl
theorem map_whole (cs : List (List (List Int))) : cs.map PyKvg6.whole = cs := by
  rw [List.map_congr_left (g := id) fun c _ => whole_id c, List.map_id]
theorem answers_calls {l : List Int} {cs : List (List (List Int))} (h : PyFlat.calls PyKvg6.shape l.length l = some cs) : PyKvg6.answers l = tailOf none cs := by
  unfold PyKvg6.answers PyKvg6.calls
  rw [h]
  show PyFlat.told (PyFlat.played Kvg6Neutral.step Kvg6Neutral.start (cs.map PyKvg6.whole)) = _
  rw [map_whole]
  rfl
theorem asked_inv {l : List Int} (h : PyKvg6.answers_asked l = true) : ∃ cs, PyFlat.calls PyKvg6.shape l.length l = some cs ∧ (∀ c ∈ cs, Kvg6Neutral.asked1 c = true) ∧ (PyKvg6.answers l).length ≤ 10000000 := by
  unfold PyKvg6.answers_asked at h
  split at h
  · cases h
  · rename_i cs hc
    simp only [Bool.and_eq_true] at h
    obtain ⟨⟨⟨⟨_, _⟩, _⟩, h4⟩, h5⟩ := h
    refine ⟨cs, hc, ?_, of_decide_eq_true h5⟩
    rw [map_whole] at h4
    unfold Kvg6Neutral.asked at h4
    rw [Bool.and_eq_true] at h4
    exact List.all_eq_true.mp h4.2
/-! ### the calls that may be handed in -/
inductive Lawful : Int → List Int → List (List Int) → Operation → Prop
  | create : Lawful 0 [] [] .create
  | insert (i id : Nat) (r : List Int) : r.length ≤ 260 → Lawful 1 [(i : Int), (id : Int)] [r] (.insert i id r)
  | remove (i id : Nat) : Lawful 2 [(i : Int), (id : Int)] [] (.remove i id)
  | update (i id : Nat) (r : List Int) : r.length ≤ 260 → Lawful 3 [(i : Int), (id : Int)] [r] (.update i id r)
  | bulkLoad (i : Nat) (r : List Int) : r.length ≤ 260 → Lawful 4 [(i : Int)] [r] (.bulkLoad i r)
  | rebuild (i : Nat) : Lawful 5 [(i : Int)] [] (.rebuild i)
  | swapTrees : Lawful 6 [] [] .swapTrees
  | getBox (i id : Nat) : Lawful 7 [(i : Int), (id : Int)] [] (.getBox i id)
  | statistics (i : Nat) : Lawful 8 [(i : Int)] [] (.statistics i)
  | bounds (i : Nat) : Lawful 9 [(i : Int)] [] (.bounds i)
  | searchWindow (i : Nat) (r : List Int) : r.length ≤ 260 → Lawful 10 [(i : Int)] [r] (.searchWindow i r)
  | searchContained (i : Nat) (r : List Int) : r.length ≤ 260 → Lawful 11 [(i : Int)] [r] (.searchContained i r)
  | searchCovering (i : Nat) (r : List Int) : r.length ≤ 260 → Lawful 12 [(i : Int)] [r] (.searchCovering i r)
  | searchWithin (i : Nat) (x y : Int) (d : Nat) : d < 2 ^ 32 → Lawful 13 [(i : Int), x, y, (d : Int)] [] (.searchWithin i x y d)
  | nearest (i : Nat) (x y : Int) (m : Nat) : Lawful 14 [(i : Int), x, y, (m : Int)] [] (.nearest i x y m)
  | joinIntersecting : Lawful 15 [] [] .joinIntersecting
  | joinWithin (d : Nat) : d < 2 ^ 32 → Lawful 16 [(d : Int)] [] (.joinWithin d)
  | joinNearest : Lawful 17 [] [] .joinNearest
  | selfJoin (i : Nat) : Lawful 18 [(i : Int)] [] (.selfJoin i)
  | describe (i : Nat) : Lawful 19 [(i : Int)] [] (.describe i)
  | nodeBoxes (i lv : Nat) : Lawful 20 [(i : Int), (lv : Int)] [] (.nodeBoxes i lv)
  | quality (i : Nat) : Lawful 21 [(i : Int)] [] (.quality i)
  | hilbertValue (r : List Int) : r.length ≤ 260 → Lawful 22 [] [r] (.hilbertValue r)
  | histogram (i size : Nat) (r : List Int) : r.length ≤ 260 → Lawful 23 [(i : Int), (size : Int)] [r] (.histogram i size r)
  | estimate (i size : Nat) (r r2 : List Int) : r.length ≤ 260 → r2.length ≤ 260 → Lawful 24 [(i : Int), (size : Int)] [r, r2] (.estimate i size r r2)
  | chooseNode (i : Nat) (r : List Int) : r.length ≤ 260 → Lawful 25 [(i : Int)] [r] (.chooseNode i r)
theorem nat_of {z : Int} {b : Nat} (h : Kvg6Neutral.isNatural z b = true) : ∃ n : Nat, z = (n : Int) ∧ n < 2 ^ b := by
  unfold Kvg6Neutral.isNatural at h
  rw [Bool.and_eq_true, decide_eq_true_eq, decide_eq_true_eq] at h
  obtain ⟨n, rfl⟩ := Int.eq_ofNat_of_zero_le h.1
  exact ⟨n, rfl, by exact_mod_cast h.2⟩
theorem lawful_of {p : Int} {ns : List Int} {rs : List (List Int)} (h : Kvg6Neutral.asked1 ((p :: ns) :: rs) = true) : ∃ o, Kvg6Neutral.operationOf ((p :: ns) :: rs) = some o ∧ Lawful p ns rs o := by
  unfold Kvg6Neutral.asked1 at h
  split at h <;> rename_i e <;> (try cases e) <;> (try simp only [Bool.and_eq_true, decide_eq_true_eq] at h)
  · exact ⟨_, rfl, .create⟩
  · obtain ⟨⟨⟨h1, h2⟩, h3⟩, _⟩ := h
    obtain ⟨i, rfl, _⟩ := nat_of h1
    obtain ⟨j, rfl, _⟩ := nat_of h2
    exact ⟨_, rfl, .insert i j _ h3⟩
  · obtain ⟨h1, h2⟩ := h
    obtain ⟨i, rfl, _⟩ := nat_of h1
    obtain ⟨j, rfl, _⟩ := nat_of h2
    exact ⟨_, rfl, .remove i j⟩
  · obtain ⟨⟨⟨h1, h2⟩, h3⟩, _⟩ := h
    obtain ⟨i, rfl, _⟩ := nat_of h1
    obtain ⟨j, rfl, _⟩ := nat_of h2
    exact ⟨_, rfl, .update i j _ h3⟩
  · obtain ⟨⟨h1, h3⟩, _⟩ := h
    obtain ⟨i, rfl, _⟩ := nat_of h1
    exact ⟨_, rfl, .bulkLoad i _ h3⟩
  · obtain ⟨i, rfl, _⟩ := nat_of h
    exact ⟨_, rfl, .rebuild i⟩
  · exact ⟨_, rfl, .swapTrees⟩
  · obtain ⟨h1, h2⟩ := h
    obtain ⟨i, rfl, _⟩ := nat_of h1
    obtain ⟨j, rfl, _⟩ := nat_of h2
    exact ⟨_, rfl, .getBox i j⟩
  · obtain ⟨i, rfl, _⟩ := nat_of h
    exact ⟨_, rfl, .statistics i⟩
  · obtain ⟨i, rfl, _⟩ := nat_of h
    exact ⟨_, rfl, .bounds i⟩
  · obtain ⟨⟨h1, h3⟩, _⟩ := h
    obtain ⟨i, rfl, _⟩ := nat_of h1
    exact ⟨_, rfl, .searchWindow i _ h3⟩
  · obtain ⟨⟨h1, h3⟩, _⟩ := h
    obtain ⟨i, rfl, _⟩ := nat_of h1
    exact ⟨_, rfl, .searchContained i _ h3⟩
  · obtain ⟨⟨h1, h3⟩, _⟩ := h
    obtain ⟨i, rfl, _⟩ := nat_of h1
    exact ⟨_, rfl, .searchCovering i _ h3⟩
  · obtain ⟨⟨⟨h1, _⟩, _⟩, h4⟩ := h
    obtain ⟨i, rfl, _⟩ := nat_of h1
    obtain ⟨j, rfl, hj⟩ := nat_of h4
    exact ⟨_, rfl, .searchWithin i _ _ j hj⟩
  · obtain ⟨⟨⟨h1, _⟩, _⟩, h4⟩ := h
    obtain ⟨i, rfl, _⟩ := nat_of h1
    obtain ⟨j, rfl, hj⟩ := nat_of h4
    exact ⟨_, rfl, .nearest i _ _ j⟩
  · exact ⟨_, rfl, .joinIntersecting⟩
  · obtain ⟨i, rfl, hi⟩ := nat_of h
    exact ⟨_, rfl, .joinWithin i hi⟩
  · exact ⟨_, rfl, .joinNearest⟩
  · obtain ⟨i, rfl, _⟩ := nat_of h
    exact ⟨_, rfl, .selfJoin i⟩
  · obtain ⟨i, rfl, _⟩ := nat_of h
    exact ⟨_, rfl, .describe i⟩
  · obtain ⟨h1, h2⟩ := h
    obtain ⟨i, rfl, _⟩ := nat_of h1
    obtain ⟨j, rfl, _⟩ := nat_of h2
    exact ⟨_, rfl, .nodeBoxes i j⟩
  · obtain ⟨i, rfl, _⟩ := nat_of h
    exact ⟨_, rfl, .quality i⟩
  · exact ⟨_, rfl, .hilbertValue _ h.1⟩
  · obtain ⟨⟨⟨h1, h2⟩, h3⟩, _⟩ := h
    obtain ⟨i, rfl, _⟩ := nat_of h1
    obtain ⟨j, rfl, _⟩ := nat_of h2
    exact ⟨_, rfl, .histogram i j _ h3⟩
  · obtain ⟨⟨⟨⟨⟨h1, h2⟩, h3⟩, _⟩, h4⟩, _⟩ := h
    obtain ⟨i, rfl, _⟩ := nat_of h1
    obtain ⟨j, rfl, _⟩ := nat_of h2
    exact ⟨_, rfl, .estimate i j _ _ h3 h4⟩
  · obtain ⟨⟨h1, h3⟩, _⟩ := h
    obtain ⟨i, rfl, _⟩ := nat_of h1
    exact ⟨_, rfl, .chooseNode i _ h3⟩
  · exact absurd h Bool.false_ne_true
theorem Lawful.op {p : Int} {ns : List Int} {rs : List (List Int)} {o : Operation} (h : Lawful p ns rs o) : 0 ≤ p ∧ p ≤ 25 := by
  cases h <;> decide
/-- what a refusal gives, and that it leaves the state -/
theorem Lawful.create_iff {p : Int} {ns : List Int} {rs : List (List Int)} {o : Operation} (h : Lawful p ns rs o) (hp : p ≠ 0) : o ≠ .create := by
  cases h <;> first | exact absurd rfl hp | (intro z; cases z)
theorem run_query {p : Int} {ns : List Int} {rs : List (List Int)} {o : Operation} (h : Lawful p ns rs o) (hp : 7 ≤ p) (s : Index) : (s.run o).1 = s := by
  cases h <;> first | (exfalso; omega) | (simp only [Kvg6.Index.run]; repeat' split) <;> rfl
theorem neg_absurd {n : Nat} {P : Prop} (h : ((n : Nat) : Int) < 0) : P := by omega
theorem run_neg {p : Int} {ns : List Int} {rs : List (List Int)} {o : Operation} (h : Lawful p ns rs o) (s : Index) : (s.run o).2.code < 0 → (s.run o).1 = s ∧ (s.run o).2.values = [] := by
  cases h <;> (simp only [Kvg6.Index.run]; repeat' split) <;> first | exact fun _ => ⟨rfl, rfl⟩ | exact fun h => neg_absurd h | exact fun h => absurd h (by decide)
theorem exec_neg {p : Int} {ns : List Int} {rs : List (List Int)} {o : Operation} (h : Lawful p ns rs o) (st : State) (hc : (execute st o).2.code < 0) : (execute st o).1 = st ∧ (execute st o).2.values = [] := by
  cases st with
  | none => cases h <;> first | exact ⟨rfl, rfl⟩ | exact absurd hc (by decide)
  | some s =>
    obtain ⟨h1, h2⟩ := run_neg h s hc
    exact ⟨congrArg some h1, h2⟩
theorem step_eq {p : Int} {ns : List Int} {rs : List (List Int)} {o : Operation} (h : Kvg6Neutral.operationOf ((p :: ns) :: rs) = some o) (st : State) : Kvg6Neutral.step st ((p :: ns) :: rs) = ((execute st o).1, (execute st o).2.code :: (execute st o).2.values) := by
  unfold Kvg6Neutral.step
  rw [h]
  rfl
end BF
namespace BFH
open PySem PySem.Spec PyProof.Rows L2
/-! ### the text by places -/
def top (i : Nat) : Stmt := PySem.Challenge.pw_boxforest_s01_answers.main.body.getD i (.Pass ⟨0, 0, 0, 0⟩)

abbrev s_Refused_init : Stmt := inClass (top 7) 0
abbrev s_need : Stmt := top 8
abbrev s_is_coordinate : Stmt := top 13
abbrev s_is_box : Stmt := top 14
abbrev s_area : Stmt := top 15
abbrev s_joined : Stmt := top 16
abbrev s_joined_all : Stmt := top 17
abbrev s_enlargement : Stmt := top 18
abbrev s_intersect : Stmt := top 19
abbrev s_contains : Stmt := top 20
abbrev s_overlap : Stmt := top 21
abbrev s_squared_distance : Stmt := top 22
abbrev s_quarter_of : Stmt := top 23
abbrev s_hilbert : Stmt := top 24
abbrev s_Item_init : Stmt := inClass (top 26) 0
abbrev s_Node_init : Stmt := inClass (top 27) 0
abbrev s_box_of : Stmt := top 28
abbrev s_empty_leaf : Stmt := top 29
abbrev s_number_of : Stmt := top 30
abbrev s_subtree : Stmt := top 31
abbrev s_items_below : Stmt := top 32
abbrev s_item_with : Stmt := top 33
abbrev s_waste : Stmt := top 37
abbrev s_seeds : Stmt := top 38
abbrev s_difference : Stmt := top 39
abbrev s_next_position : Stmt := top 40
abbrev s_group_for : Stmt := top 41
abbrev s_group_in_need : Stmt := top 42
abbrev s_split : Stmt := top 43
abbrev s_nodes_with : Stmt := top 44
abbrev s_chosen : Stmt := top 45
abbrev s_path_for : Stmt := top 46
abbrev s_inserted_below : Stmt := top 47
abbrev s_with_item : Stmt := top 48
abbrev s_child_with : Stmt := top 49
abbrev s_removed_below : Stmt := top 50
abbrev s_lowered : Stmt := top 51
abbrev s_without_item : Stmt := top 52
abbrev s_grouped : Stmt := top 53
abbrev s_curve_key : Stmt := top 54
abbrev s_bulk_loaded : Stmt := top 55
abbrev s_box_from : Stmt := top 60
abbrev s_is_row : Stmt := top 61
abbrev s_items_from : Stmt := top 62
abbrev s_Forest_init : Stmt := inClass (top 63) 0
abbrev s_Forest_root : Stmt := inClass (top 63) 1
abbrev s_Forest_item : Stmt := inClass (top 63) 2
abbrev s_Forest_replace_root : Stmt := inClass (top 63) 3
abbrev s_Forest_insert : Stmt := inClass (top 63) 4
abbrev s_Forest_remove_item : Stmt := inClass (top 63) 5
abbrev s_Forest_update_item : Stmt := inClass (top 63) 6
abbrev s_Forest_bulk_load : Stmt := inClass (top 63) 7
abbrev s_Forest_rebuild : Stmt := inClass (top 63) 8
abbrev s_Forest_swap_trees : Stmt := inClass (top 63) 9
abbrev s_place_in : Stmt := top 65
abbrev s_histogram : Stmt := top 66
abbrev s_covered : Stmt := top 67
abbrev s_common_divisor : Stmt := top 68
abbrev s_estimate : Stmt := top 69
abbrev s_window_search : Stmt := top 71
abbrev s_order : Stmt := top 72
abbrev s_rows_for : Stmt := top 73
abbrev s_first_rows : Stmt := top 74
abbrev s_nearest_search : Stmt := top 75
abbrev s_near_pairs : Stmt := top 76
abbrev s_parts_of : Stmt := top 77
abbrev s_join_search : Stmt := top 78
abbrev s_all_from : Stmt := top 81
abbrev s_box_answer : Stmt := top 82
abbrev s_statistics : Stmt := top 83
abbrev s_bounds : Stmt := top 84
abbrev s_search_answer : Stmt := top 85
abbrev s_search_window : Stmt := top 86
abbrev s_search_contained : Stmt := top 87
abbrev s_search_covering : Stmt := top 88
abbrev s_point_from : Stmt := top 89
abbrev s_search_within : Stmt := top 90
abbrev s_nearest : Stmt := top 91
abbrev s_join_answer : Stmt := top 92
abbrev s_join_trees : Stmt := top 93
abbrev s_join_nearest : Stmt := top 94
abbrev s_self_join : Stmt := top 95
abbrev s_node_row : Stmt := top 96
abbrev s_describe : Stmt := top 97
abbrev s_node_boxes : Stmt := top 98
abbrev s_overlaps : Stmt := top 99
abbrev s_quality : Stmt := top 100
abbrev s_hilbert_value : Stmt := top 101
abbrev s_check_cells : Stmt := top 102
abbrev s_histogram_answer : Stmt := top 103
abbrev s_estimate_answer : Stmt := top 104
abbrev s_choose_node : Stmt := top 105
abbrev s_Session_init : Stmt := inClass (top 109) 0
abbrev s_Session_does : Stmt := inClass (top 109) 1
abbrev s_Session_answer : Stmt := inClass (top 109) 2
abbrev s_changed : Stmt := top 110
abbrev s_looked_up : Stmt := top 111
abbrev s_searched : Stmt := top 112
abbrev s_measured : Stmt := top 113
abbrev s_lists_at : Stmt := top 114
abbrev s_answers : Stmt := top 115
/-! ### what the head tells: defs, facts -/
abbrev fd1 (x : Str) (st : Stmt) : He.FnD := ⟨(x, none), x, x, defArgs st, defBody st, defScope st⟩
abbrev fd2 (c m q : Str) (st : Stmt) : He.FnD := ⟨(c, some m), m, q, defArgs st, defBody st, defScope st⟩
def fn : List He.FnD := [fd2 "Refused" "__init__" "Refused.__init__" s_Refused_init,
  fd1 "need" s_need,
  fd1 "is_coordinate" s_is_coordinate,
  fd1 "is_box" s_is_box,
  fd1 "area" s_area,
  fd1 "joined" s_joined,
  fd1 "joined_all" s_joined_all,
  fd1 "enlargement" s_enlargement,
  fd1 "intersect" s_intersect,
  fd1 "contains" s_contains,
  fd1 "overlap" s_overlap,
  fd1 "squared_distance" s_squared_distance,
  fd1 "quarter_of" s_quarter_of,
  fd1 "hilbert" s_hilbert,
  fd2 "Item" "__init__" "Item.__init__" s_Item_init,
  fd2 "Node" "__init__" "Node.__init__" s_Node_init,
  fd1 "box_of" s_box_of,
  fd1 "empty_leaf" s_empty_leaf,
  fd1 "number_of" s_number_of,
  fd1 "subtree" s_subtree,
  fd1 "items_below" s_items_below,
  fd1 "item_with" s_item_with,
  fd1 "waste" s_waste,
  fd1 "seeds" s_seeds,
  fd1 "difference" s_difference,
  fd1 "next_position" s_next_position,
  fd1 "group_for" s_group_for,
  fd1 "group_in_need" s_group_in_need,
  fd1 "split" s_split,
  fd1 "nodes_with" s_nodes_with,
  fd1 "chosen" s_chosen,
  fd1 "path_for" s_path_for,
  fd1 "inserted_below" s_inserted_below,
  fd1 "with_item" s_with_item,
  fd1 "child_with" s_child_with,
  fd1 "removed_below" s_removed_below,
  fd1 "lowered" s_lowered,
  fd1 "without_item" s_without_item,
  fd1 "grouped" s_grouped,
  fd1 "curve_key" s_curve_key,
  fd1 "bulk_loaded" s_bulk_loaded,
  fd1 "box_from" s_box_from,
  fd1 "is_row" s_is_row,
  fd1 "items_from" s_items_from,
  fd2 "Forest" "__init__" "Forest.__init__" s_Forest_init,
  fd2 "Forest" "root" "Forest.root" s_Forest_root,
  fd2 "Forest" "item" "Forest.item" s_Forest_item,
  fd2 "Forest" "replace_root" "Forest.replace_root" s_Forest_replace_root,
  fd2 "Forest" "insert" "Forest.insert" s_Forest_insert,
  fd2 "Forest" "remove_item" "Forest.remove_item" s_Forest_remove_item,
  fd2 "Forest" "update_item" "Forest.update_item" s_Forest_update_item,
  fd2 "Forest" "bulk_load" "Forest.bulk_load" s_Forest_bulk_load,
  fd2 "Forest" "rebuild" "Forest.rebuild" s_Forest_rebuild,
  fd2 "Forest" "swap_trees" "Forest.swap_trees" s_Forest_swap_trees,
  fd1 "place_in" s_place_in,
  fd1 "histogram" s_histogram,
  fd1 "covered" s_covered,
  fd1 "common_divisor" s_common_divisor,
  fd1 "estimate" s_estimate,
  fd1 "window_search" s_window_search,
  fd1 "order" s_order,
  fd1 "rows_for" s_rows_for,
  fd1 "first_rows" s_first_rows,
  fd1 "nearest_search" s_nearest_search,
  fd1 "near_pairs" s_near_pairs,
  fd1 "parts_of" s_parts_of,
  fd1 "join_search" s_join_search,
  fd1 "all_from" s_all_from,
  fd1 "box_answer" s_box_answer,
  fd1 "statistics" s_statistics,
  fd1 "bounds" s_bounds,
  fd1 "search_answer" s_search_answer,
  fd1 "search_window" s_search_window,
  fd1 "search_contained" s_search_contained,
  fd1 "search_covering" s_search_covering,
  fd1 "point_from" s_point_from,
  fd1 "search_within" s_search_within,
  fd1 "nearest" s_nearest,
  fd1 "join_answer" s_join_answer,
  fd1 "join_trees" s_join_trees,
  fd1 "join_nearest" s_join_nearest,
  fd1 "self_join" s_self_join,
  fd1 "node_row" s_node_row,
  fd1 "describe" s_describe,
  fd1 "node_boxes" s_node_boxes,
  fd1 "overlaps" s_overlaps,
  fd1 "quality" s_quality,
  fd1 "hilbert_value" s_hilbert_value,
  fd1 "check_cells" s_check_cells,
  fd1 "histogram_answer" s_histogram_answer,
  fd1 "estimate_answer" s_estimate_answer,
  fd1 "choose_node" s_choose_node,
  fd2 "Session" "__init__" "Session.__init__" s_Session_init,
  fd2 "Session" "does" "Session.does" s_Session_does,
  fd2 "Session" "answer" "Session.answer" s_Session_answer,
  fd1 "changed" s_changed,
  fd1 "looked_up" s_looked_up,
  fd1 "searched" s_searched,
  fd1 "measured" s_measured,
  fd1 "lists_at" s_lists_at,
  fd1 "answers" s_answers]
def fa : List He.Fa := [.glo "need",
  .glo "is_coordinate",
  .glo "is_box",
  .glo "area",
  .glo "joined",
  .glo "joined_all",
  .glo "enlargement",
  .glo "intersect",
  .glo "contains",
  .glo "overlap",
  .glo "squared_distance",
  .glo "quarter_of",
  .glo "hilbert",
  .glo "box_of",
  .glo "empty_leaf",
  .glo "number_of",
  .glo "subtree",
  .glo "items_below",
  .glo "item_with",
  .glo "waste",
  .glo "seeds",
  .glo "difference",
  .glo "next_position",
  .glo "group_for",
  .glo "group_in_need",
  .glo "split",
  .glo "nodes_with",
  .glo "chosen",
  .glo "path_for",
  .glo "inserted_below",
  .glo "with_item",
  .glo "child_with",
  .glo "removed_below",
  .glo "lowered",
  .glo "without_item",
  .glo "grouped",
  .glo "curve_key",
  .glo "bulk_loaded",
  .glo "box_from",
  .glo "is_row",
  .glo "items_from",
  .glo "place_in",
  .glo "histogram",
  .glo "covered",
  .glo "common_divisor",
  .glo "estimate",
  .glo "window_search",
  .glo "order",
  .glo "rows_for",
  .glo "first_rows",
  .glo "nearest_search",
  .glo "near_pairs",
  .glo "parts_of",
  .glo "join_search",
  .glo "all_from",
  .glo "box_answer",
  .glo "statistics",
  .glo "bounds",
  .glo "search_answer",
  .glo "search_window",
  .glo "search_contained",
  .glo "search_covering",
  .glo "point_from",
  .glo "search_within",
  .glo "nearest",
  .glo "join_answer",
  .glo "join_trees",
  .glo "join_nearest",
  .glo "self_join",
  .glo "node_row",
  .glo "describe",
  .glo "node_boxes",
  .glo "overlaps",
  .glo "quality",
  .glo "hilbert_value",
  .glo "check_cells",
  .glo "histogram_answer",
  .glo "estimate_answer",
  .glo "choose_node",
  .glo "changed",
  .glo "looked_up",
  .glo "searched",
  .glo "measured",
  .glo "lists_at",
  .glo "answers",
  .glo "Refused",
  .glo "Item",
  .glo "Node",
  .glo "Forest",
  .glo "Session",
  .glo "SHAPES",
  .free "len",
  .free "all",
  .free "min",
  .free "max",
  .free "range",
  .free "sorted",
  .free "abs",
  .free "set",
  .free "tuple",
  .free "list",
  .free "sum",
  .free "enumerate",
  .free "ValueError",
  .int "NO_INSTANCE" (-11),
  .int "NO_TREE" (-2),
  .int "TWICE" (-17),
  .int "OUT_OF_RANGE" (-22),
  .int "TOO_MANY" (-28),
  .int "NOT_THERE" (-33),
  .int "LEAST" (-1073741824),
  .int "GREATEST" (1073741823),
  .int "ORDER" (32),
  .int "LEAST_ENTRIES" (2),
  .int "MOST_ENTRIES" (4),
  .int "MOST_ITEMS" (48),
  .int "GREATEST_NUMBER" (65535),
  .int "ROW" (5),
  .int "MOST_SIZE" (8),
  .int "CREATE" (0),
  .noat "Refused" "code",
  .cls "Item",
  .mkr "Item",
  .noat "Item" "number",
  .noat "Item" "box",
  .cls "Node",
  .mkr "Node",
  .noat "Node" "level",
  .noat "Node" "entries",
  .noat "Node" "box",
  .cls "Forest",
  .mkr "Forest",
  .noat "Forest" "roots",
  .cls "Session",
  .mkr "Session",
  .noat "Session" "forest",
  .meth "Forest" "root",
  .meth "Forest" "item",
  .meth "Forest" "replace_root",
  .meth "Forest" "insert",
  .meth "Forest" "remove_item",
  .meth "Forest" "update_item",
  .meth "Forest" "bulk_load",
  .meth "Forest" "rebuild",
  .meth "Forest" "swap_trees",
  .meth "Session" "does",
  .meth "Session" "answer",
  .keep "Refused",
  .exm "Refused" "Refused" true]
/-- the error's class as HandS.ExcInit wants it -/
def oexB (K : PySem.W.Frag) (C : Addr) : Bool := match K.lookup C with
  | some ⟨.type "type", _, .cls cd, sl⟩ => (match cd.mro, sl.toList with
    | .ref C' :: bm, [_, _, _, _, some (.builtin n), _] => C' == C && (n == "ValueError.__new__" && (!cd.hasDel && (cd.hasDict && PySem.HandSPX.refsVE bm)))
    | _, _ => false)
  | _ => false
def initAt (K : PySem.W.Frag) (C : Addr) : Addr := He.ma K C "__init__"
def shp : List (Int × Int) := [(0, 0), (2, 1), (2, 0), (2, 1), (1, 1), (1, 0), (0, 0), (2, 0), (1, 0), (1, 0), (1, 1), (1, 1), (1, 1), (4, 0), (4, 0), (0, 0), (1, 0), (0, 0), (1, 0), (1, 0), (2, 0), (1, 0), (0, 1), (2, 1), (2, 2), (1, 1)]
/-- two ints at an address -/
def twoB (K : PySem.W.Frag) (v : Value) (p : Int × Int) : Bool := match v with
  | .ref a => (match K.lookup a with
    | some ⟨.type c, _, .seq its _, _⟩ => decide (c = "tuple") && (match its.toList with
      | [.int i _, .int j _] => decide (i = p.1) && decide (j = p.2)
      | _ => false)
    | _ => false)
  | _ => false
def allB {α β : Type} (f : α → β → Bool) : List α → List β → Bool
  | [], [] => true
  | a :: l, b :: m => f a b && allB f l m
  | _, _ => false
def shapesB (K : PySem.W.Frag) : Bool := match K.lookup (He.ga K "SHAPES") with
  | some ⟨.type c, _, .seq its _, _⟩ => decide (c = "tuple") && allB (twoB K) its.toList shp
  | _ => false
def moreB (K : PySem.W.Frag) : Bool :=
  fn.all (fun d => PySem.W.keepIn K (.ref (He.fAd K d.at_))) &&
  (oexB K (He.ga K "Refused") && (xfB K (He.ga K "Refused") && (
  decide (PySem.W.findIn K (.ref (He.ga K "Refused")) "__setattr__" = some (some (.builtin "object.__setattr__"))) && (
  decide (PySem.W.findIn K (.ref (He.ga K "Refused")) "__init__" = some (some (.ref (initAt K (He.ga K "Refused"))))) && (
  decide (PySem.W.typeIn K (.ref (initAt K (He.ga K "Refused"))) = some (.type "function")) && (
  decide (PySem.W.subIn K (.ref (He.ga K "Refused")) (.type "BaseException") = some true) && (
  decide (PySem.W.typeIn K (.ref (He.ga K "Refused")) = some (.type "type")) && shapesB K)))))))
def ads : List Addr := [3, 31, 140, 161, 423, 721, 30, 139, 160, 422, 720, 664, 665, 666, 667, 668, 669, 670, 671, 672, 673, 674, 675, 676, 677, 678, 679, 680, 681, 682, 683, 684, 685, 686, 687, 688, 689, 690, 28, 27, 41, 40, 48, 47, 53, 52, 60, 59, 67, 66, 74, 73, 81, 80, 88, 87, 95, 94, 102, 101, 109, 108, 116, 115, 123, 122, 137, 136, 158, 157, 170, 169, 177, 176, 184, 183, 191, 190, 198, 197, 205, 204, 212, 211, 219, 218, 226, 225, 233, 232, 238, 237, 245, 244, 250, 249, 255, 254, 260, 259, 267, 266, 274, 273, 281, 280, 286, 285, 291, 290, 298, 297, 305, 304, 312, 311, 319, 318, 324, 323, 331, 330, 338, 337, 343, 342, 357, 356, 364, 363, 371, 370, 378, 377, 385, 384, 392, 391, 399, 398, 406, 405, 413, 412, 420, 419, 434, 433, 441, 440, 448, 447, 455, 454, 462, 461, 467, 466, 474, 473, 479, 478, 486, 485, 491, 490, 496, 495, 503, 502, 508, 507, 515, 514, 522, 521, 529, 528, 536, 535, 541, 540, 548, 547, 553, 552, 558, 557, 565, 564, 570, 569, 577, 576, 584, 583, 591, 590, 598, 597, 603, 602, 608, 607, 613, 612, 618, 617, 623, 622, 628, 627, 635, 634, 642, 641, 649, 648, 656, 655, 663, 662, 704, 703, 711, 710, 718, 717, 732, 731, 739, 738, 746, 745, 753, 752, 760, 759, 767, 766]
/-! ### the Hook -/
abbrev AlM : Type := Bool × He.Al
def obsM (K : PySem.W.Frag) : AlM := (moreB K, He.obsE fa fn K)
def valM : AlM := (true, He.valE fn)
def SaysM (K : PySem.W.Frag) : Prop := obsM K = valM
def hk : PySem.W.Hook where
  α := AlM
  obs := fun s => obsM (He.frG s.heap.get? ads)
  val := fun _ => valM
  says := fun _ h => ∃ K : PySem.W.Frag, K.In h ∧ SaysM K
  of := fun _ _ e => ⟨_, He.frG_in, e⟩
  keeps := fun _ _ _ ⟨K, hK, c⟩ k => ⟨K, PySem.W.Frag.In.keeps hK k, c⟩
def ob (s : PySem.W.SharedT) : hk.α := obsM (He.frG (HandSHeadRun.getT s) ads)
theorem ob_eq (s : PySem.W.SharedT) : ob s = hk.obs s.abs := by
  have e : HandSHeadRun.getT s = s.abs.heap.get? := funext (HandSHeadRun.getT_eq s)
  show obsM (He.frG (HandSHeadRun.getT s) ads) = obsM (He.frG s.abs.heap.get? ads)
  rw [e]
abbrev P : Program := PySem.Challenge.rw_boxforest_s01_answers.prog
abbrev qv : Program := PySem.W.view P [115]
def loose : List PySem.Str := (["NO_INSTANCE", "NO_TREE", "TWICE", "OUT_OF_RANGE", "TOO_MANY", "NOT_THERE", "Refused", "need", "LEAST", "GREATEST", "ORDER", "is_coordinate", "is_box", "area", "joined", "joined_all"] : List PySem.Str) ++ (["enlargement", "intersect", "contains", "overlap", "squared_distance", "quarter_of", "hilbert", "Item", "Node", "box_of", "empty_leaf", "number_of", "subtree", "items_below", "item_with", "LEAST_ENTRIES"] : List PySem.Str) ++ (["MOST_ENTRIES", "waste", "seeds", "difference", "next_position", "group_for", "group_in_need", "split", "nodes_with", "chosen", "path_for", "inserted_below", "with_item", "child_with", "removed_below", "lowered"] : List PySem.Str) ++ (["without_item", "grouped", "curve_key", "bulk_loaded", "MOST_ITEMS", "GREATEST_NUMBER", "ROW", "box_from", "is_row", "items_from", "Forest", "place_in", "histogram", "covered", "common_divisor", "estimate"] : List PySem.Str) ++ (["window_search", "order", "rows_for", "first_rows", "nearest_search", "near_pairs", "parts_of", "join_search", "MOST_SIZE", "all_from", "box_answer", "statistics", "bounds", "search_answer", "search_window", "search_contained"] : List PySem.Str) ++ (["search_covering", "point_from", "search_within", "nearest", "join_answer", "join_trees", "join_nearest", "self_join", "node_row", "describe", "node_boxes", "overlaps", "quality", "hilbert_value", "check_cells", "histogram_answer"] : List PySem.Str) ++ (["estimate_answer", "choose_node", "CREATE", "SHAPES", "Session", "changed", "looked_up", "searched", "measured", "lists_at"] : List PySem.Str)
theorem run (w : World) : HandSHeadRun.RunEqS PySem.Challenge.rw_boxforest_s01_answers qv hk ob 6000 loose w := by
  intro os
  kernel_rfl
end BFH
namespace BFW
open PySem PySem.Spec PyProof.Rows L2 BFH
/-! ### what the top has left, in the words of the layer -/
/-- the function object at a def's place -/
def fdo (K : PySem.W.Frag) (p : Str × Option Str) : FuncData := match K.lookup (He.fAd K p) with
  | some ⟨_, _, .func fd, _⟩ => fd
  | _ => PySem.W.fnOf "" "" ⟨[], [], none, [], [], none, []⟩ [] ⟨.function, [], false, false, []⟩ .none .none .none .none none .none .none
structure Tx (K : PySem.W.Frag) (mg : Str → Option Value) : Prop where
  says : SaysM K
  at_ : ∃ h : Heap, K.In h ∧ h.Ns mainGlobals mg
section
variable {K : PySem.W.Frag} {mg : Str → Option Value}
theorem Tx.more (T : Tx K mg) : moreB K = true := congrArg (fun z : AlM => z.1) T.says
theorem Tx.saysE (T : Tx K mg) : He.SaysE fa fn K := congrArg (fun z : AlM => z.2) T.says
theorem Tx.fact (T : Tx K mg) (i : Nat) {f : He.Fa} (h : fa[i]? = some f := by rfl) : f.ok K = true := T.saysE.fact i h
theorem Tx.glo (T : Tx K mg) (i : Nat) {x : Str} (h : fa[i]? = some (.glo x) := by rfl) : mg x = some (.ref (He.ga K x)) := by
  obtain ⟨hp, X, G⟩ := T.at_
  exact He.glo_ok X G (T.fact i h)
theorem Tx.free (T : Tx K mg) (i : Nat) {x : Str} (h : fa[i]? = some (.free x) := by rfl) : mg x = none := by
  obtain ⟨hp, X, G⟩ := T.at_
  exact He.free_ok X G (T.fact i h)
theorem Tx.int (T : Tx K mg) (i : Nat) {x : Str} {z : Int} (h : fa[i]? = some (.int x z) := by rfl) : ∃ t, mg x = some (.int z t) := by
  obtain ⟨hp, X, G⟩ := T.at_
  exact He.int_ok X G (T.fact i h)
theorem Tx.keep (T : Tx K mg) (i : Nat) {d : He.FnD} (h : fn[i]? = some d) : PySem.W.keepIn K (.ref (He.fAd K d.at_)) = true :=
  List.all_eq_true.mp (He.ba T.more).1 d (List.mem_of_getElem? h)
theorem Tx.fun_ (T : Tx K mg) (i : Nat) {d : He.FnD} (h : fn[i]? = some d) : ∃ (oc : Value) (od : Option Addr) (kV doc pm : Value) (an : Option Addr) (cdv ct : Value) (osl : Array (Option Value)),
    fdo K d.at_ = PySem.W.fnOf d.name d.qual d.params d.body d.scope .none kV doc pm an cdv ct ∧ K.lookup (He.fAd K d.at_) = some ⟨oc, od, .func (fdo K d.at_), osl⟩ ∧ PySem.W.codeIn K cdv d.qual = true := by
  obtain ⟨oc, od, osl, kV, doc, pm, an, cdv, ct, lk, hc⟩ := T.saysE.def_ i h
  have e : fdo K d.at_ = PySem.W.fnOf d.name d.qual d.params d.body d.scope .none kV doc pm an cdv ct := by
    unfold fdo
    rw [lk]
  exact ⟨oc, od, kV, doc, pm, an, cdv, ct, osl, e, by rw [lk, e], hc⟩
theorem Tx.fn1 (T : Tx K mg) (i : Nat) {x : Str} {st : Stmt} (h : fn[i]? = some (fd1 x st)) : Fun K x x st (He.ga K x) (fdo K (x, none)) := ⟨T.fun_ i h, T.keep i h⟩
theorem Tx.fn2 (T : Tx K mg) (i : Nat) {c m q : Str} {st : Stmt} (h : fn[i]? = some (fd2 c m q st)) : Fun K m q st (He.ma K (He.ga K c) m) (fdo K (c, some m)) := ⟨T.fun_ i h, T.keep i h⟩
end
/-! ### calls of the text's own defs -/
section
variable {P : Program} {w : World} {K : PySem.W.Frag} {mg : Str → Option Value} {base : Heap}
/-- a def that keeps a promise; nothing is raised out of it -/
structure Kn (P : Program) (w : World) (K : PySem.W.Frag) (mg : Str → Option Value) (base : Heap) (x : Str) (k : Nat) (ps : List Str) (sp : Sp) : Prop where
  ok : FnOk P w K mg base CX0 k (He.ga K x) (fdo K (x, none)) ps sp
  bd : Binds K (fdo K (x, none)) ps []
  kp : PySem.W.keepIn K (.ref (He.ga K x)) = true
  gl : mg x = some (.ref (He.ga K x))
/-- the same of one that may raise -/
structure KnX (P : Program) (w : World) (K : PySem.W.Frag) (mg : Str → Option Value) (base : Heap) (x : Str) (k : Nat) (ps : List Str) (sp : Sp) : Prop where
  ok : FnOk P w K mg base (L2.CX P w) k (He.ga K x) (fdo K (x, none)) ps sp
  bd : Binds K (fdo K (x, none)) ps []
  kp : PySem.W.keepIn K (.ref (He.ga K x)) = true
  gl : mg x = some (.ref (He.ga K x))
end
section
variable {X : Cx} {j k : Nat} {sp : Sp} {x : Str} {ps : List Str} {p pos : Pos} {e : Expr} {es : List Expr} {t : TA}
theorem kc (F : Kn X.prog X.w X.K X.mg X.base x j ps sp) (hr : Room k X.A) (ha : PA X (e :: es) t) (hjk : j ≤ k := by decide) (hg : Gl X x := by rfl) (hdb : (x == ("__debug__" : Str)) = false := by decide)
    (he : starEach (e :: es) X.env = (false, eval e X.env) :: starEach es X.env := by rfl) (hpl : (backTo pos (starEach es X.env)).any (·.1) = false := by rfl) :
    PE X (.Call (.Name x p) (e :: es) [] pos) (tCall sp [] E0 t) := pe_call F.ok (hr.mono hjk) hg F.gl F.kp F.bd .nil pass0 ha hdb he hpl
theorem kc0 (F : Kn X.prog X.w X.K X.mg X.base x j ps sp) (hr : Room k X.A) (hjk : j ≤ k := by decide) (hg : Gl X x := by rfl) (hdb : (x == ("__debug__" : Str)) = false := by decide) :
    PE X (.Call (.Name x p) [] [] pos) (tCall sp [] E0 tNil) := pe_call0 F.ok (hr.mono hjk) hg F.gl F.kp F.bd .nil pass0 hdb
end
end BFW
namespace PySem
theorem Paired.impl {α β : Type} {R R' : α → β → Prop} (f : ∀ a b, R a b → R' a b) : ∀ {l : List α} {m : List β}, Paired R l m → Paired R' l m
  | _, _, .nil => .nil
  | _, _, .cons h t => .cons (f _ _ h) (Paired.impl f t)
theorem Paired.get {α β : Type} {R : α → β → Prop} : ∀ {l : List α} {m : List β} {i : Nat} {x : α}, Paired R l m → l[i]? = some x → ∃ y, m[i]? = some y ∧ R x y
  | _, _, i, _, .nil, h => by simp at h
  | _, _, 0, _, .cons h _, e => by
    simp at e
    subst e
    exact ⟨_, rfl, h⟩
  | _, _, i + 1, _, .cons _ t, e => by
    obtain ⟨y, h1, h2⟩ := Paired.get (i := i) t (by simpa using e)
    exact ⟨y, by simpa using h1, h2⟩
theorem Paired.get2 {α β : Type} {R : α → β → Prop} : ∀ {l : List α} {m : List β} {i : Nat} {y : β}, Paired R l m → m[i]? = some y → ∃ x, l[i]? = some x ∧ R x y
  | _, _, i, _, .nil, h => by simp at h
  | _, _, 0, _, .cons h _, e => by
    simp at e
    subst e
    exact ⟨_, rfl, h⟩
  | _, _, i + 1, _, .cons _ t, e => by
    obtain ⟨y, h1, h2⟩ := Paired.get2 (i := i) t (by simpa using e)
    exact ⟨y, by simpa using h1, h2⟩
theorem Paired.app {α β : Type} {R : α → β → Prop} : ∀ {l l' : List α} {m m' : List β}, Paired R l m → Paired R l' m' → Paired R (l ++ l') (m ++ m')
  | _, _, _, _, .nil, h => h
  | _, _, _, _, .cons h t, h' => .cons h (Paired.app t h')
theorem Paired.one {α β : Type} {R : α → β → Prop} {x : α} {y : β} (h : R x y) : Paired R [x] [y] := .cons h .nil
theorem Paired.len {α β : Type} {R : α → β → Prop} {l : List α} {m : List β} (h : Paired R l m) : l.length = m.length := Paired.length h
theorem Paired.takeP {α β : Type} {R : α → β → Prop} : ∀ (n : Nat) {l : List α} {m : List β}, Paired R l m → Paired R (l.take n) (m.take n)
  | 0, _, _, _ => by
    rw [List.take_zero, List.take_zero]
    exact .nil
  | n + 1, _, _, .nil => .nil
  | n + 1, _, _, .cons h t => .cons h (Paired.takeP n t)
theorem Paired.dropP {α β : Type} {R : α → β → Prop} : ∀ (n : Nat) {l : List α} {m : List β}, Paired R l m → Paired R (l.drop n) (m.drop n)
  | 0, _, _, h => h
  | n + 1, _, _, .nil => .nil
  | n + 1, _, _, .cons h t => Paired.dropP n t
theorem Paired.mapL {α β γ : Type} {R : α → β → Prop} {f : γ → α} : ∀ {l : List γ} {m : List β}, Paired (fun x y => R (f x) y) l m → Paired R (l.map f) m
  | _, _, .nil => .nil
  | _, _, .cons h t => .cons h (Paired.mapL t)
theorem Paired.mapR {α β γ : Type} {R : α → β → Prop} {f : γ → β} : ∀ {l : List α} {m : List γ}, Paired (fun x y => R x (f y)) l m → Paired R l (m.map f)
  | _, _, .nil => .nil
  | _, _, .cons h t => .cons h (Paired.mapR t)
theorem Paired.ofMapR {α β γ : Type} {R : α → β → Prop} {f : γ → β} : ∀ {l : List α} {m : List γ}, Paired R l (m.map f) → Paired (fun x y => R x (f y)) l m
  | _, [], h => by
    cases h
    exact .nil
  | _, y :: m, h => by
    cases h with
    | cons a b => exact .cons a (Paired.ofMapR b)
theorem Paired.pick {α β : Type} {R : α → β → Prop} {l : List α} {m : List β} (h : Paired R l m) : ∀ ix : List Nat, Paired R (BF.pick l ix) (BF.pick m ix)
  | [] => .nil
  | i :: r => by
    have hr := Paired.pick h r
    unfold BF.pick at hr ⊢
    cases e : l[i]? with
    | none =>
      have e2 : m[i]? = none := by
        rw [List.getElem?_eq_none_iff] at e ⊢
        rw [← h.len]
        exact e
      rw [List.filterMap_cons, List.filterMap_cons, e, e2]
      exact hr
    | some x =>
      obtain ⟨y, e2, r⟩ := h.get e
      rw [List.filterMap_cons, List.filterMap_cons, e, e2]
      exact .cons r hr
theorem Paired.filterP {α β : Type} {R : α → β → Prop} {p : α → Bool} {q : β → Bool} : ∀ {l : List α} {m : List β}, Paired R l m → (∀ x y, R x y → p x = q y) → Paired R (l.filter p) (m.filter q)
  | _, _, .nil, _ => .nil
  | _, _, .cons (a := x) (b := y) h t, e => by
    rw [List.filter_cons, List.filter_cons, e x y h]
    cases q y with
    | true => exact .cons h (Paired.filterP t e)
    | false => exact Paired.filterP t e
end PySem
namespace BFW
open PySem PySem.Spec PyProof.Rows L2 BFH
open Kvg6 (Box Item)
open BF (BoxOk ItOk)
/-! ### calls of defs that may raise, of methods, of classes -/
section
variable {X : Cx} {j k : Nat} {sp : Sp} {x c m : Str} {ps : List Str} {p pos apos : Pos} {e o : Expr} {es : List Expr} {t : TA} {ta : TE} {E : XK}
theorem kcX (F : KnX X.prog X.w X.K X.mg X.base x j ps sp) (hr : Room k X.A) (ha : PA X (e :: es) t) (hp : Passes (L2.CX X.prog X.w) X E) (hjk : j ≤ k := by decide) (hg : Gl X x := by rfl) (hdb : (x == ("__debug__" : Str)) = false := by decide)
    (he : starEach (e :: es) X.env = (false, eval e X.env) :: starEach es X.env := by rfl) (hpl : (backTo pos (starEach es X.env)).any (·.1) = false := by rfl) :
    PE X (.Call (.Name x p) (e :: es) [] pos) (tCall sp [] E t) := pe_call F.ok (hr.mono hjk) hg F.gl F.kp F.bd .nil hp ha hdb he hpl
/-- what the top has left of a class -/
structure KCl (K : PySem.W.Frag) (mg : Str → Option Value) (c : Str) (f : Addr) : Prop where
  cl : Cls K (He.ga K c)
  mak : Mk K (He.ga K c) f
  gl : mg c = some (.ref (He.ga K c))
/-- a class's __init__ that keeps a promise -/
structure KnI (P : Program) (w : World) (K : PySem.W.Frag) (mg : Str → Option Value) (base : Heap) (c : Str) (k : Nat) (ps : List Str) (sp : Sp) : Prop where
  ok : FnOk P w K mg base CX0 k (He.ma K (He.ga K c) "__init__") (fdo K (c, some "__init__")) ps sp
  bd : Binds K (fdo K (c, some "__init__")) ps []
  kc : KCl K mg c (He.ma K (He.ga K c) "__init__")
structure KnM (P : Program) (w : World) (K : PySem.W.Frag) (mg : Str → Option Value) (base : Heap) (c m : Str) (k : Nat) (ps : List Str) (sp : Sp) : Prop where
  ok : FnOk P w K mg base CX0 k (He.ma K (He.ga K c) m) (fdo K (c, some m)) ps sp
  bd : Binds K (fdo K (c, some m)) ps []
  cl : Cls K (He.ga K c)
  me : Meth K (He.ga K c) m (He.ma K (He.ga K c) m)
structure KnMX (P : Program) (w : World) (K : PySem.W.Frag) (mg : Str → Option Value) (base : Heap) (c m : Str) (k : Nat) (ps : List Str) (sp : Sp) : Prop where
  ok : FnOk P w K mg base (L2.CX P w) k (He.ma K (He.ga K c) m) (fdo K (c, some m)) ps sp
  bd : Binds K (fdo K (c, some m)) ps []
  cl : Cls K (He.ga K c)
  me : Meth K (He.ga K c) m (He.ma K (He.ga K c) m)
theorem km (F : KnI X.prog X.w X.K X.mg X.base c j ps sp) (hr : Room k X.A) (ha : PA X (e :: es) t) (hjk : j + 1 ≤ k := by decide) (hg : Gl X c := by rfl) (hdb : (c == ("__debug__" : Str)) = false := by decide)
    (he : starEach (e :: es) X.env = (false, eval e X.env) :: starEach es X.env := by rfl) (hpl : (backTo pos (starEach es X.env)).any (·.1) = false := by rfl) :
    PE X (.Call (.Name c p) (e :: es) [] pos) (tMake (He.ga X.K c) sp [] E0 t) := pe_make F.kc.mak F.ok (hr.mono hjk) hg F.kc.gl F.bd .nil pass0 ha hdb he hpl
theorem km0 (F : KnI X.prog X.w X.K X.mg X.base c j ps sp) (hr : Room k X.A) (hjk : j + 1 ≤ k := by decide) (hg : Gl X c := by rfl) (hdb : (c == ("__debug__" : Str)) = false := by decide) :
    PE X (.Call (.Name c p) [] [] pos) (tMake (He.ga X.K c) sp [] E0 tNil) := pe_make0 F.kc.mak F.ok (hr.mono hjk) hg F.kc.gl F.bd .nil pass0 hdb
end
/-! ### boxes, items, nodes in the heap -/
def bxV (b : Box) : List V := [.int b.x0, .int b.y0, .int b.x1, .int b.y1]
def itF (n : Int) (q : Addr) : List (Str × V) := [("number", .int n), ("box", .ref q)]
def ndF (l : Int) (e : Addr) (bv : V) : List (Str × V) := [("level", .int l), ("entries", .ref e), ("box", bv)]
theorem lk_here {k : Str} {v : V} {r : List (Str × V)} : List.lookup k ((k, v) :: r) = some v := by
  have e : (k == k) = true := beq_self_eq_true k
  simp only [List.lookup, e]
theorem lk_past {k g : Str} {v : V} {r : List (Str × V)} (h : (k == g) = false) : List.lookup k ((g, v) :: r) = List.lookup k r := by
  simp only [List.lookup, h]
theorem put_here {f : Str} {v x : V} {r : List (Str × V)} : putF f v ((f, x) :: r) = (f, v) :: r := if_pos rfl
theorem put_past {f g : Str} {v x : V} {r : List (Str × V)} (h : ¬ g = f) : putF f v ((g, x) :: r) = (g, x) :: putF f v r := if_neg h
theorem itF_number {n : Int} {q : Addr} : (itF n q).lookup ("number" : Str) = some (.int n) := lk_here
theorem itF_box {n : Int} {q : Addr} : (itF n q).lookup ("box" : Str) = some (.ref q) := (lk_past (by decide +kernel)).trans lk_here
theorem ndF_level {l : Int} {e : Addr} {bv : V} : (ndF l e bv).lookup ("level" : Str) = some (.int l) := lk_here
theorem ndF_entries {l : Int} {e : Addr} {bv : V} : (ndF l e bv).lookup ("entries" : Str) = some (.ref e) := (lk_past (by decide +kernel)).trans lk_here
theorem ndF_box {l : Int} {e : Addr} {bv : V} : (ndF l e bv).lookup ("box" : Str) = some bv := (lk_past (by decide +kernel)).trans ((lk_past (by decide +kernel)).trans lk_here)
/-- the box b stands at q -/
def BoxAt (H : Hp) (q : Addr) (b : Box) : Prop := H q = some (.tup (bxV b)) ∧ BoxOk b
/-- what an entry of a node is: an instance of the class that has a box -/
def EntF (C1 C2 : Addr) (C : Addr) (fs : List (Str × V)) (q : Addr) : Prop := (C = C1 ∧ ∃ n, fs = itF n q) ∨ (C = C2 ∧ ∃ l e, fs = ndF l e (.ref q))
def Ent (K : PySem.W.Frag) (H : Hp) (v : V) (b : Box) : Prop := ∃ a C dx fs q, v = .ref a ∧ H a = some (.ins C dx fs) ∧ EntF (He.ga K "Item") (He.ga K "Node") C fs q ∧ BoxAt H q b
def ItemAt (K : PySem.W.Frag) (H : Hp) (v : V) (it : Item) : Prop := ∃ a dx q, v = .ref a ∧ H a = some (.ins (He.ga K "Item") dx (itF it.id q)) ∧ BoxAt H q it.box
/-- a node's box: none where there are no entries -/
def BoxV (H : Hp) (bv : V) (bs : List Box) : Prop := (bs = [] ∧ bv = .non) ∨ (bs ≠ [] ∧ ∃ q, bv = .ref q ∧ BoxAt H q (Kvg6.joinAll bs))
/-- a node: its level, what stands in its list, the boxes of these -/
def NodeV (K : PySem.W.Frag) (H : Hp) (l : Int) (vs : List V) (bs : List Box) (v : V) : Prop := ∃ p dx e bv, v = .ref p ∧ H p = some (.ins (He.ga K "Node") dx (ndF l e bv)) ∧ H e = some (.lst vs) ∧ Paired (Ent K H) vs bs ∧ BoxV H bv bs
def TreeV (K : PySem.W.Frag) (H : Hp) : Nat → V → Kvg6.Tree → Prop
  | 0, v, .leaf items => items.length ≤ 4 ∧ ∃ vs, NodeV K H 1 vs (items.map Item.box) v ∧ Paired (ItemAt K H) vs items
  | n + 1, v, .node ch => ch.length ≤ 4 ∧ ∃ vs, NodeV K H ((n : Int) + 2) vs (ch.map Kvg6.Tree.box) v ∧ Paired (TreeV K H n) vs ch
  | _, _, _ => False
section
variable {K : PySem.W.Frag} {H H' : Hp} {a b q : Addr} {v : V} {vs : List V} {bs : List Box}
theorem _root_.L2.Same.box {b : Box} (S : Same H H') (h : BoxAt H q b) : BoxAt H' q b := ⟨S _ _ h.1, h.2⟩
theorem _root_.L2.Same.ent {b : Box} (S : Same H H') (h : Ent K H v b) : Ent K H' v b := by
  obtain ⟨a, C, dx, fs, q, e, h1, h2, h3⟩ := h
  exact ⟨a, C, dx, fs, q, e, S _ _ h1, h2, S.box h3⟩
theorem _root_.L2.Same.item {it : Item} (S : Same H H') (h : ItemAt K H v it) : ItemAt K H' v it := by
  obtain ⟨a, dx, q, e, h1, h3⟩ := h
  exact ⟨a, dx, q, e, S _ _ h1, S.box h3⟩
theorem ItemAt.ent {it : Item} (h : ItemAt K H v it) : Ent K H v it.box := by
  obtain ⟨a, dx, q, e, h1, h3⟩ := h
  exact ⟨a, _, dx, _, q, e, h1, .inl ⟨rfl, _, rfl⟩, h3⟩
theorem _root_.L2.Same.boxV {bv : V} (S : Same H H') (h : BoxV H bv bs) : BoxV H' bv bs := by
  rcases h with h | ⟨h1, q, h2, h3⟩
  · exact .inl h
  · exact .inr ⟨h1, q, h2, S.box h3⟩
theorem _root_.L2.Same.node {l : Int} (S : Same H H') (h : NodeV K H l vs bs v) : NodeV K H' l vs bs v := by
  obtain ⟨p, dx, e, bv, h1, h2, h3, h4, h5⟩ := h
  exact ⟨p, dx, e, bv, h1, S _ _ h2, S _ _ h3, Paired.impl (fun _ _ => S.ent) h4, S.boxV h5⟩
theorem tree_same (S : Same H H') : ∀ {n : Nat} {v : V} {t : Kvg6.Tree}, TreeV K H n v t → TreeV K H' n v t
  | 0, v, .leaf items, h => by
    obtain ⟨h0, vs, h1, h2⟩ := h
    exact ⟨h0, vs, S.node h1, Paired.impl (fun _ _ => S.item) h2⟩
  | n + 1, v, .node ch, h => by
    obtain ⟨h0, vs, h1, h2⟩ := h
    exact ⟨h0, vs, S.node h1, Paired.impl (fun _ _ => tree_same S) h2⟩
  | 0, _, .node _, h => h
  | _ + 1, _, .leaf _, h => h
theorem _root_.L2.Same.tree {n : Nat} {v : V} {t : Kvg6.Tree} (S : Same H H') (h : TreeV K H n v t) : TreeV K H' n v t := tree_same S h
theorem _root_.L2.Same.upd {o : HO} (h : H a = none) : Same H (upd H a o) := fun b u e => by rw [upd_ne (ne_of_none e h)]; exact e
theorem _root_.L2.Same.upd2 {H0 : Hp} {o : HO} (S : Same H0 H) (h : H0 a = none) : Same H0 (upd H a o) := fun b u e => by rw [upd_ne (ne_of_none e h)]; exact S b u e
theorem _root_.L2.Same.upd3 {H0 : Hp} {o : HO} (S : Same H0 H) (h : H a = none) : Same H0 (upd H a o) := fun b u e => by rw [upd_ne (ne_of_none (S b u e) h)]; exact S b u e
theorem sqT_of {xs : List V} (h : H a = some (.tup xs)) : SqT K H a xs := .inl (.inl h)
theorem sqL_of {xs : List V} (h : H a = some (.lst xs)) : SqL K H a xs := .inl (.inl h)
theorem upd_at {o u : HO} (h : H b = some u) (hn : H a = none) : L2.upd H a o b = some u := by rw [upd_ne (ne_of_none h hn)]; exact h
end
/-! ### the heap without one object (a comprehension's own list) -/
def off (H : Hp) (D : Addr) : Hp := fun b => if b = D then none else H b
section
variable {H H' H0 : Hp} {D b : Addr} {o : HO}
theorem off_upd : off (upd H D o) D = off H D := by
  funext b
  unfold off
  by_cases h : b = D
  · rw [if_pos h, if_pos h]
  · rw [if_neg h, if_neg h, upd_ne h]
theorem off_same : Same (off H D) H := fun b u e => by
  unfold off at e
  by_cases h : b = D
  · rw [if_pos h] at e
    cases e
  · rw [if_neg h] at e
    exact e
theorem _root_.L2.Same.off (S : Same H H') : Same (BFW.off H D) (BFW.off H' D) := fun b u e => by
  unfold BFW.off at e ⊢
  by_cases h : b = D
  · rw [if_pos h] at e
    cases e
  · rw [if_neg h] at e ⊢
    exact S b u e
theorem _root_.L2.Same.off0 (S : Same H0 H) (h : H0 D = none) : Same H0 (BFW.off H D) := fun b u e => by
  unfold BFW.off
  rw [if_neg (ne_of_none e h)]
  exact S b u e
theorem off_at (h : H b = some o) (hn : b ≠ D) : off H D b = some o := by
  unfold off
  rw [if_neg hn]
  exact h
theorem off_ne {u : HO} (h : H b = some o) (hD : H D = some u) (d : o ≠ u) : off H D b = some o := off_at h (ne_of h hD d)
end
/-! ### comprehensions -/
/-- [te for name in a walk if tt]: what stands in the new list, item by item -/
theorem lc_gen {J : It} {n : Nat} {G : Hp → Prop} {f : Nat → V} {H0 : Hp} {D : Addr} {i0 : Nat} {tt : TT} {te : TE} {vs : List Nat} {σ : L2.St} {Qd : Hp → Prop} {α : Type} (zs : List α) (p : α → Bool) (R : Hp → V → α → Prop)
    (w : Walk J n G (fun i H x H' => H' = H ∧ x = f i)) (hn : zs.length = n) (hz : n < sizeLine) (hD : H0 D = none) (hG : ∀ H, Same H0 H → G H)
    (mono : ∀ H H' v z, Same H H' → R H v z → R H' v z)
    (hw : ∀ x, wipe (((wipe σ vs).set i0 (some x))) vs = wipe σ vs)
    (test : ∀ i z H, i < n → zs[i]? = some z → Same H0 H → ∀ k : Bool → Hp → Prop, (∀ H', Same H H' → k (p z) H') → tt ((wipe σ vs).set i0 (some (f i))) H k)
    (elt : ∀ i z H acc, i < n → zs[i]? = some z → p z = true → Same H0 H → Same H0 (off H D) → H D = some (.lst acc) → ∀ k : VK, (∀ y H', Same H H' → R (off H' D) y z → k y H') → te ((wipe σ vs).set i0 (some (f i))) H k)
    (fin : ∀ H' ys, Same H0 H' → H' D = some (.lst ys) → Paired (R (off H' D)) ys (zs.filter p) → Qd H') :
    ∃ W : Nat → Nat → Hp → Prop, (∃ m, W 0 m (upd H0 D (.lst []))) ∧ ∀ i m H, W i m H →
      (J.stop i H ∧ Qd H) ∨ (J.go i H ∧ ∃ Nx : Hp → Prop, (∀ H', Nx H' → ∃ m', m' < m ∧ W (i + 1) m' H') ∧ ∀ x H', J.yld i H x H' → gName i0 x (wipe σ vs) H' fun σ2 H2 => wipe σ2 vs = wipe σ vs ∧ tt σ2 H2 fun b H3 =>
        if b = true then te σ2 H3 fun y H4 => ∃ acc, H4 D = some (.lst acc) ∧ acc.length < sizeLine ∧ Nx (upd H4 D (.lst (acc ++ [y]))) else Nx H3) := by
  refine lc_it w (fun i H => Same H0 H ∧ ∃ acc, H D = some (.lst acc) ∧ Paired (R (off H D)) acc ((zs.take i).filter p)) ?_ ?_ ?_ ?_
  · exact ⟨Same.upd hD, [], upd_same, by rw [List.take_zero]; exact .nil⟩
  · exact fun i H _ h => hG H h.1
  · rintro i x H H1 hi ⟨S, acc, hacc, hp⟩ ⟨rfl, rfl⟩
    obtain ⟨z, hz1⟩ : ∃ z, zs[i]? = some z := ⟨zs[i]'(by omega), by simp [hn, hi]⟩
    have htk : zs.take (i + 1) = zs.take i ++ [z] := by
      rw [List.take_add_one, hz1]
      rfl
    have hle : acc.length < sizeLine := by
      have e1 := hp.len
      have e2 : ((zs.take i).filter p).length ≤ i := Nat.le_trans (List.length_filter_le _ _) (List.length_take_le _ _)
      omega
    refine ⟨hw _, test i z _ hi hz1 S _ fun H2 S2 => ?_⟩
    cases hpz : p z with
    | false =>
      refine iteF ⟨S.trans S2, acc, S2 _ _ hacc, ?_⟩
      rw [htk, List.filter_append, show [z].filter p = [] by simp [hpz], List.append_nil]
      exact Paired.impl (fun _ _ h => mono _ _ _ _ (Same.off S2) h) hp
    | true =>
      refine iteT (elt i z H2 acc hi hz1 hpz (S.trans S2) ((S.trans S2).off0 hD) (S2 _ _ hacc) _ fun y H3 S3 hR => ?_)
      refine ⟨acc, S3 _ _ (S2 _ _ hacc), hle, ((S.trans S2).trans S3).upd2 hD, acc ++ [y], upd_same, ?_⟩
      rw [off_upd, htk, List.filter_append, show [z].filter p = [z] by simp [hpz]]
      exact Paired.app (Paired.impl (fun _ _ h => mono _ _ _ _ (Same.off (S2.trans S3)) h) hp) (Paired.one hR)
  · rintro H ⟨S, acc, hacc, hp⟩
    rw [← hn, List.take_length] at hp
    exact fin H acc S hacc hp
/-- the walk over a list, by place -/
theorem walk_listF {K : PySem.W.Frag} {a : Addr} {xs : List V} {d : V} : Walk (Itl K a) xs.length (fun H => SqL K H a xs) (fun i H x H' => H' = H ∧ x = xs.getD i d) :=
  walk_list.mono (fun _ h => h) fun i H x H' _ _ y => ⟨y.1, by rw [List.getD_eq_getElem?_getD, y.2]; rfl⟩
/-- over a list whose items are told one by one (zs), the name in the i0-th slot -/
theorem lc_li {K : PySem.W.Frag} {a : Addr} {xs : List V} {H0 : Hp} {i0 : Nat} {tt : TT} {te : TE} {vs : List Nat} {σ : L2.St} {Qd : Addr → Hp → Prop} {α : Type} {R0 : V → α → Prop} (zs : List α) (p : α → Bool) (R : Hp → V → α → Prop)
    (hx : Paired R0 xs zs) (hs : ∀ H, Same H0 H → SqL K H a xs) (hz : xs.length < sizeLine)
    (mono : ∀ H H' v z, Same H H' → R H v z → R H' v z)
    (hw : ∀ x, wipe (((wipe σ vs).set i0 (some x))) vs = wipe σ vs)
    (test : ∀ x z H, R0 x z → z ∈ zs → Same H0 H → ∀ k : Bool → Hp → Prop, (∀ H', Same H H' → k (p z) H') → tt ((wipe σ vs).set i0 (some x)) H k)
    (elt : ∀ x z H D acc, R0 x z → z ∈ zs → p z = true → Same H0 H → Same H0 (off H D) → H D = some (.lst acc) → ∀ k : VK, (∀ y H', Same H H' → R (off H' D) y z → k y H') → te ((wipe σ vs).set i0 (some x)) H k)
    (fin : ∀ D H' ys, H0 D = none → Same H0 H' → H' D = some (.lst ys) → Paired (R (off H' D)) ys (zs.filter p) → Qd D H') :
    ∀ D, H0 D = none → ∃ W : Nat → Nat → Hp → Prop, (∃ m, W 0 m (upd H0 D (.lst []))) ∧ ∀ i m H, W i m H →
      ((Itl K a).stop i H ∧ Qd D H) ∨ ((Itl K a).go i H ∧ ∃ Nx : Hp → Prop, (∀ H', Nx H' → ∃ m', m' < m ∧ W (i + 1) m' H') ∧ ∀ x H', (Itl K a).yld i H x H' → gName i0 x (wipe σ vs) H' fun σ2 H2 => wipe σ2 vs = wipe σ vs ∧ tt σ2 H2 fun b H3 =>
        if b = true then te σ2 H3 fun y H4 => ∃ acc, H4 D = some (.lst acc) ∧ acc.length < sizeLine ∧ Nx (upd H4 D (.lst (acc ++ [y]))) else Nx H3) := by
  intro D hD
  have rel : ∀ i z, zs[i]? = some z → R0 (xs.getD i .non) z := fun i z hz1 => by
    obtain ⟨x, e, r⟩ := hx.get2 hz1
    rw [List.getD_eq_getElem?_getD, e]
    exact r
  refine lc_gen (f := fun i => xs.getD i .non) zs p R walk_listF hx.len.symm hz hD hs mono hw ?_ ?_ (fun H' ys => fin D H' ys hD)
  · exact fun i z H hi hz1 S k hk => test _ z H (rel i z hz1) (List.mem_of_getElem? hz1) S k hk
  · exact fun i z H acc hi hz1 hp S S' ha k hk => elt _ z H D acc (rel i z hz1) (List.mem_of_getElem? hz1) hp S S' ha k hk
theorem _root_.L2.Room.units65 {k : Nat} {A : Around} (hr : Room k A) : A.units + 65 < cLine := by
  have := hr.un
  omega
/-! ### a list against the empty list -/
def rNeNil (K : PySem.W.Frag) : R2 := fun x y H Q => ∃ a b xs, x = .ref a ∧ y = .ref b ∧ SqL K H a xs ∧ H b = some (.lst []) ∧ Q (.bl (!xs.isEmpty)) H
def rEqNil (K : PySem.W.Frag) : R2 := fun x y H Q => ∃ a b xs, x = .ref a ∧ y = .ref b ∧ SqL K H a xs ∧ H b = some (.lst []) ∧ Q (.bl xs.isEmpty) H
section
variable {X : Cx}
theorem op_neNil (hu : X.A.units < cLine) : OpR X (compareOp .NotEq) (rNeNil X.K) := by
  intro pins s σ H x y v u Q I rx ry h
  obtain ⟨a, b, xs, rfl, rfl, hs, hb, q⟩ := h
  cases rx
  cases ry
  obtain ⟨its, rv, hl, hz⟩ := I.list hs
  obtain ⟨its2, rv2, hl2, hz2⟩ := I.list (.inl (.inl hb))
  cases rv2
  show wpAny (model X.prog X.w) X.A (richCompare .NotEq (.ref a) (.ref b)) (EP X pins σ Q) X.xe s
  cases rv with
  | nil => exact SeqAt.RcNeAt.lists (e := fun _ => true) hl.isList hl2.isList rfl hu (fun j h1 h2 => absurd h1 (by simp)) X.prog X.w _ _ ⟨.bl false, H, I, rfl, q⟩
  | cons r1 r2 => exact SeqAt.RcNeAt.lists_lengths hl.isList hl2.isList (by simp) hu X.prog X.w _ _ ⟨.bl true, H, I, rfl, q⟩
theorem op_eqNil (hu : X.A.units < cLine) : OpR X (compareOp .Eq) (rEqNil X.K) := by
  intro pins s σ H x y v u Q I rx ry h
  obtain ⟨a, b, xs, rfl, rfl, hs, hb, q⟩ := h
  cases rx
  cases ry
  obtain ⟨its, rv, hl, hz⟩ := I.list hs
  obtain ⟨its2, rv2, hl2, hz2⟩ := I.list (.inl (.inl hb))
  cases rv2
  show wpAny (model X.prog X.w) X.A (richCompare .Eq (.ref a) (.ref b)) (EP X pins σ Q) X.xe s
  cases rv with
  | nil => exact SeqAt.RcAt.lists (e := fun _ => true) hl.isList hl2.isList rfl hu (fun j h1 h2 => absurd h1 (by simp)) X.prog X.w _ _ ⟨.bl true, H, I, rfl, q⟩
  | cons r1 r2 => exact SeqAt.RcAt.lists_lengths hl.isList hl2.isList (by simp) hu X.prog X.w _ _ ⟨.bl false, H, I, rfl, q⟩
end
/-! ### the rules with the written part named (for the blocks of comprehensions) -/
section
variable {X : Cx} {K : PySem.W.Frag} {j k : Nat} {sp : Sp} {c f : Str} {ps : List Str} {p pos apos : Pos} {e o : Expr} {es : List Expr} {t : TA} {ta : TE}
theorem pe_fldK (hK : X.K = K) (he : PE X e ta) (hb : attributeBase e f X.env (eval e X.env) = eval e X.env) : PE X (.Attribute e f pos) (tFld K ta f) := by
  subst hK
  exact pe_fld he hb
theorem ix_tupK (hK : X.K = K) : IxR X (rIxT K) := by
  subst hK
  exact ix_tup
theorem ix_listK (hK : X.K = K) : IxR X (rIxL K) := by
  subst hK
  exact ix_list
theorem sl_listK (hK : X.K = K) : SlR X (rSlL K) := by
  subst hK
  exact sl_list
theorem sl_tupK (hK : X.K = K) : SlR X (rSlT K) := by
  subst hK
  exact sl_tup
theorem op_neDK (hK : X.K = K) (hu : X.A.units + 64 < cLine) : OpR X (compareOp .NotEq) (rNeD K) := by
  subst hK
  exact op_neD hu
theorem op_neNilK (hK : X.K = K) (hu : X.A.units < cLine) : OpR X (compareOp .NotEq) (rNeNil K) := by
  subst hK
  exact op_neNil hu
theorem op_notInK (hK : X.K = K) : OpR X (compareOp .NotIn) (rIn K true) := by
  subst hK
  exact op_notIn_seq
theorem call_lenK (hK : X.K = K) : CallR X (.builtin "len") (fun xs H Q => ∃ p ys, xs = [.ref p] ∧ (SqL K H p ys ∨ SqT K H p ys) ∧ Q (.int ys.length) H) := by
  subst hK
  exact call_len_seq
theorem call_tupleK (hK : X.K = K) : CallR X (.type "tuple") (fun xs H Q => ∃ p ys, xs = [.ref p] ∧ ((SqL K H p ys ∧ ∀ l, H l = none → Q (.ref l) (upd H l (.tup ys))) ∨ (SqT K H p ys ∧ Q (.ref p) H))) := by
  subst hK
  exact call_tuple_of
theorem kmK (hK : X.K = K) (F : KnI X.prog X.w X.K X.mg X.base c j ps sp) (hr : Room k X.A) (ha : PA X (e :: es) t) (hjk : j + 1 ≤ k := by decide) (hg : Gl X c := by rfl) (hdb : (c == ("__debug__" : Str)) = false := by decide)
    (he : starEach (e :: es) X.env = (false, eval e X.env) :: starEach es X.env := by rfl) (hpl : (backTo pos (starEach es X.env)).any (·.1) = false := by rfl) :
    PE X (.Call (.Name c p) (e :: es) [] pos) (tMake (He.ga K c) sp [] E0 t) := by
  subst hK
  exact km F hr ha hjk hg hdb he hpl
end
end BFW
namespace BFW
open PySem PySem.Spec PyProof.Rows L2 BFH
open PySem.W (dataLt alike alikeAll AlikeAll keyToksAll minD)
/-! ### tuples of ints as data -/
def tD (ns : List Int) : PyData := .tuple (ns.map .int)
theorem alike_ints : ∀ ns ms : List Int, alikeAll (ns.map .int) (ms.map .int) = true
  | [], _ => by
    cases ‹List Int› <;> rfl
  | n :: ns, [] => rfl
  | n :: ns, m :: ms => by
    show alikeAll (.int n :: ns.map .int) (.int m :: ms.map .int) = true
    rw [alikeAll, alike_ints ns ms]
    rfl
theorem tD_alike (ns ms : List Int) : alike (tD ns) (tD ms) = true := by
  show alike (.tuple _) (.tuple _) = true
  rw [alike]
  exact alike_ints ns ms
theorem lt_ints : ∀ ns ms : List Int, PyProof.Rows.lexLt PyProof.Rows.itemOrd (keyToksAll (ns.map .int)) (keyToksAll (ms.map .int)) = BF.klt ns ms
  | [], [] => by
    rw [BF.klt_nil]
    exact PyProof.Rows.lex_irrefl _
  | [], m :: ms => by
    rw [BF.klt_nil_cons, List.map_cons, PySem.W.toks_all_cons]
    rfl
  | n :: ns, [] => by
    rw [BF.klt_nil, List.map_cons, PySem.W.toks_all_cons]
    rfl
  | n :: ns, m :: ms => by
    rw [List.map_cons, List.map_cons, PySem.W.dataLt_cons (by simp [alike]), lt_ints ns ms, BF.klt_cons, PySem.W.dataLt_int]
    by_cases h : n = m
    · subst h
      rw [if_pos (by simp [PyData.eqv])]
      simp
    · rw [if_neg (by simpa [PyData.eqv] using h)]
      simp [h]
theorem tD_lt (ns ms : List Int) : dataLt (tD ns) (tD ms) = BF.klt ns ms := by
  show dataLt (.tuple _) (.tuple _) = _
  rw [PySem.W.dataLt_tuple, lt_ints]
theorem eqv_ints : ∀ ns ms : List Int, PyData.eqvAll (ns.map .int) (ms.map .int) = decide (ns = ms)
  | [], [] => rfl
  | [], m :: ms => rfl
  | n :: ns, [] => rfl
  | n :: ns, m :: ms => by
    rw [List.map_cons, List.map_cons, PySem.W.eqv_all_cons, eqv_ints ns ms]
    by_cases h : n = m
    · subst h
      simp [PyData.eqv]
    · simp [PyData.eqv, h]
theorem tD_eqv (ns ms : List Int) : PyData.eqv (tD ns) (tD ms) = decide (ns = ms) := by
  show PyData.eqv (.tuple _) (.tuple _) = _
  rw [PyData.eqv]
  exact eqv_ints ns ms
theorem ints_lay : ∀ ns : List Int, PyData.canLayAll0 (ns.map .int) = true
  | [] => by simp [PyData.canLayAll0]
  | n :: ns => by simp [PyData.canLayAll0, PyData.canLay0, ints_lay ns]
theorem ints_depth : ∀ ns : List Int, PyData.depthAll (ns.map .int) = 0
  | [] => by simp [PyData.depthAll]
  | n :: ns => by simp [PyData.depthAll, PyData.depth, ints_depth ns]
theorem tD_depth (ns : List Int) : (tD ns).depth = 1 := by
  show PyData.depth (.tuple _) = 1
  rw [PyData.depth, ints_depth]
theorem tD_lay (ns : List Int) : (tD ns).canLay0 = true := by
  show PyData.canLay0 (.tuple _) = true
  rw [PyData.canLay0]
  exact ints_lay ns
theorem tD_shaped (ns : List Int) : SeqAt.shaped (tD ns) = true := by
  show ((tD ns).canLay0 && decide ((tD ns).depth ≤ 64)) = true
  rw [tD_lay, tD_depth]
  rfl
theorem tDs_lay : ∀ ks : List (List Int), PyData.canLayAll0 (ks.map tD) = true
  | [] => by simp [PyData.canLayAll0]
  | k :: ks => by simp [PyData.canLayAll0, tD_lay, tDs_lay ks]
theorem tDs_depth : ∀ ks : List (List Int), PyData.depthAll (ks.map tD) ≤ 1
  | [] => by simp [PyData.depthAll]
  | k :: ks => by
    have h1 := tDs_depth ks
    have h2 := tD_depth k
    simp only [List.map_cons, PyData.depthAll]
    omega
theorem tDs_shaped (ks : List (List Int)) : SeqAt.shaped (.list (ks.map tD)) = true := by
  have h1 := tDs_depth ks
  show (PyData.canLay0 (.list (ks.map tD)) && decide (PyData.depth (.list (ks.map tD)) ≤ 64)) = true
  rw [Bool.and_eq_true]
  refine ⟨by rw [PyData.canLay0]; exact tDs_lay ks, decide_eq_true ?_⟩
  rw [PyData.depth]
  omega
def KeyT (H : Hp) (v : V) (ns : List Int) : Prop := ∃ q, v = .ref q ∧ H q = some (.tup (ns.map V.int))
theorem _root_.L2.Same.keyT {H H' : Hp} {v : V} {ns : List Int} (S : Same H H') (h : KeyT H v ns) : KeyT H' v ns := by
  obtain ⟨q, e, h⟩ := h
  exact ⟨q, e, S _ _ h⟩
section
variable {K : PySem.W.Frag} {H : Hp}
theorem dp_ints : ∀ ns : List Int, DpAll K H (ns.map V.int) (ns.map .int)
  | [] => .nil
  | n :: ns => .cons (.int n) (dp_ints ns)
theorem KeyT.dp {v : V} {ns : List Int} (h : KeyT H v ns) : Dp K H v (tD ns) := by
  obtain ⟨q, rfl, h⟩ := h
  exact .tup (.inl (.inl h)) (dp_ints ns)
theorem keys_dp : ∀ {vs : List V} {ks : List (List Int)}, Paired (KeyT H) vs ks → DpAll K H vs (ks.map tD)
  | _, _, .nil => .nil
  | _, _, .cons h t => .cons h.dp (keys_dp t)
end
/-! ### min of tuples of ints -/
theorem minD_tD (k : List Int) : ∀ ks : List (List Int), ∃ m, minD (tD k) (ks.map tD) = tD m ∧ m ∈ k :: ks ∧ ∀ x ∈ k :: ks, BF.klt x m = false := by
  intro ks
  unfold minD
  induction ks generalizing k with
  | nil => exact ⟨k, rfl, by simp, fun x hx => by rw [List.mem_singleton.mp hx]; exact BF.klt_irrefl k⟩
  | cons y r ih =>
    rw [List.map_cons, List.foldl_cons, tD_lt]
    cases c : BF.klt y k with
    | true =>
      rw [if_pos rfl]
      obtain ⟨m, e, hm, hl⟩ := ih y
      refine ⟨m, e, List.mem_cons_of_mem _ hm, fun x hx => ?_⟩
      rcases List.mem_cons.mp hx with rfl | hx
      · have h1 := hl y List.mem_cons_self
        cases c2 : BF.klt x m with
        | false => rfl
        | true => exact absurd (BF.klt_trans c c2) (by rw [h1]; decide)
      · exact hl x hx
    | false =>
      rw [if_neg (by decide)]
      obtain ⟨m, e, hm, hl⟩ := ih k
      refine ⟨m, e, ?_, fun x hx => ?_⟩
      · rcases List.mem_cons.mp hm with rfl | hm
        · exact List.mem_cons_self
        · exact List.mem_cons_of_mem _ (List.mem_cons_of_mem _ hm)
      · rcases List.mem_cons.mp hx with rfl | hx
        · exact hl _ List.mem_cons_self
        · rcases List.mem_cons.mp hx with rfl | hx
          · have h1 := hl k List.mem_cons_self
            cases c2 : BF.klt x m with
            | false => rfl
            | true =>
              have := BF.klt_neg c2 h1
              rw [c] at this
              cases this
          · exact hl x (List.mem_cons_of_mem _ hx)
/-- min(xs), xs a list of tuples of ints: an item that none is below -/
def rMinT (K : PySem.W.Frag) : List V → Hp → VK → Prop := fun vs H Q => ∃ (a : Addr) (xs : List V) (ks : List (List Int)), vs = [.ref a] ∧ SqL K H a xs ∧ Paired (KeyT H) xs ks ∧ ks ≠ [] ∧
  ∀ v k, v ∈ xs → KeyT H v k → k ∈ ks → (∀ x ∈ ks, BF.klt x k = false) → Q v H
theorem cr_minT {X : Cx} {k : Nat} (hr : Room k X.A) (hc : X.calm = true := by rfl) : CallR X (.builtin "min") (rMinT X.K) := by
  intro pins s σ H vs us Q I r h
  obtain ⟨a, xs, ks, rfl, hs, hk, hne, q⟩ := h
  obtain ⟨its, rv, hl, hz⟩ := I.list hs
  rw [Vals.ref1 r]
  cases ks with
  | nil => exact absurd rfl hne
  | cons k0 ks =>
    obtain ⟨as, hr1⟩ := Dp.readsAll I _ xs its (keys_dp hk) rv
    have hu : X.A.units + 1 + PyData.depthAll (tD k0 :: ks.map tD) < cLine := by
      have h1 := tDs_depth (k0 :: ks)
      have h2 := hr.units
      rw [List.map_cons] at h1
      omega
    have hal : AlikeAll (tD k0 :: ks.map tD) := by
      have e : tD k0 :: ks.map tD = (k0 :: ks).map tD := rfl
      rw [e]
      refine ⟨fun x hx y hy => ?_, fun x hx => ?_⟩
      · obtain ⟨n, _, rfl⟩ := List.mem_map.mp hx
        obtain ⟨m, _, rfl⟩ := List.mem_map.mp hy
        exact tD_alike n m
      · obtain ⟨n, _, rfl⟩ := List.mem_map.mp hx
        exact fun z => nomatch z
    refine PySem.W.min_list_data (I.ok.hd hc) hl.isList hr1 hal hu fun i v h' tk bs hi hrd hkp => ?_
    obtain ⟨m, em, hm, hlst⟩ := minD_tD k0 ks
    rw [em] at hrd
    have hi' : its[i]? = some v := by simpa using hi
    obtain ⟨x, ex, rx⟩ : ∃ x, xs[i]? = some x ∧ L2.RelV x v := by
      cases e : xs[i]? with
      | none =>
        have := rv.none_of e
        rw [hi'] at this
        cases this
      | some x =>
        obtain ⟨u, e1, r1⟩ := rv.get e
        rw [hi'] at e1
        cases e1
        exact ⟨x, rfl, r1⟩
    obtain ⟨n, en, hkx⟩ := hk.get ex
    obtain ⟨bs', hrx⟩ := Dp.reads I _ x v hkx.dp rx
    obtain ⟨e1, _⟩ := reads_det (fun b o e _ => hkp b o e) hrx hrd
    have e2 : m = n := by
      have e3 : (PyData.tuple (m.map .int)) = .tuple (n.map .int) := e1
      injection e3 with e3
      have hinj : ∀ (p q : List Int), p.map PyData.int = q.map PyData.int → p = q := fun p => by
        induction p with
        | nil =>
          intro q hq
          cases q with
          | nil => rfl
          | cons => cases hq
        | cons a p ih =>
          intro q hq
          cases q with
          | nil => cases hq
          | cons b q =>
            rw [List.map_cons, List.map_cons] at hq
            injection hq with h1 h2
            injection h1 with h1
            rw [h1, ih q h2]
      exact hinj m n e3
    subst e2
    exact ⟨x, H, I.kept (t' := tk) hkp, rx, q x m (List.mem_of_getElem? ex) hkx (List.mem_of_getElem? en) hlst⟩
end BFW
namespace BFW
open PySem PySem.Spec PyProof.Rows L2 BFH
open PySem.W (AllAlike Sortable EachIs dataKind SortsAt dataLe sortVals KeepsBut copyHeap sortingHeap KeyedOut)
/-! ### sorted(xs, key=f), f a def of the text -/
/-- u stands for a key: an int or a tuple of ints -/
def KeyD (H : Hp) (u : V) (d : PyData) : Prop := (∃ n : Int, u = .int n ∧ d = .int n) ∨ ∃ ns, KeyT H u ns ∧ d = tD ns
theorem _root_.L2.Same.keyD {H H' : Hp} {u : V} {d : PyData} (S : Same H H') (h : KeyD H u d) : KeyD H' u d := by
  rcases h with h | ⟨ns, h, e⟩
  · exact .inl h
  · exact .inr ⟨ns, S.keyT h, e⟩
theorem KeyD.dp {K : PySem.W.Frag} {H : Hp} {u : V} {d : PyData} (h : KeyD H u d) : Dp K H u d := by
  rcases h with ⟨n, rfl, rfl⟩ | ⟨ns, h, rfl⟩
  · exact .int n
  · exact h.dp
theorem args_sorted_key (l : Addr) (v : Value) : argsOk "sorted" ⟨[.ref l], [(Str.ofString "key", v)]⟩ := by unfold argsOk; kernel_rfl
theorem args_sort_key (l : Addr) (v : Value) : argsOk "list.sort" ⟨[.ref l], [(Str.ofString "key", v)]⟩ := by unfold argsOk; kernel_rfl
theorem each_of_paired {α β : Type} {R : α → β → Prop} : ∀ {as : List α} {bs : List β}, Paired R as bs → EachIs R as bs
  | _, _, .nil => .nil
  | _, _, .cons h t => .cons h (each_of_paired t)
theorem paired_of_each {α β : Type} {R : α → β → Prop} : ∀ {as : List α} {bs : List β}, EachIs R as bs → Paired R as bs
  | _, _, .nil => .nil
  | _, _, .cons h t => .cons h (paired_of_each t)
/-- through the middle -/
theorem paired_mid {α β γ : Type} {R : β → α → Prop} {S : β → γ → Prop} : ∀ {us : List α} {zs : List γ}, Paired (fun u z => ∃ v, R v u ∧ S v z) us zs → ∃ vs : List β, Paired R vs us ∧ Paired S vs zs
  | _, _, .nil => ⟨[], .nil, .nil⟩
  | _, _, .cons ⟨v, h1, h2⟩ t => by
    obtain ⟨vs, a, b⟩ := paired_mid t
    exact ⟨v :: vs, .cons h1 a, .cons h2 b⟩
theorem paired_both {α β γ : Type} {R : β → α → Prop} {S : β → γ → Prop} : ∀ {vs : List β} {us : List α} {zs : List γ}, Paired R vs us → Paired S vs zs → Paired (fun u z => ∃ v, R v u ∧ S v z) us zs
  | _, _, _, .nil, h => by
    cases h
    exact .nil
  | _, _, _, .cons h t, h' => by
    cases h' with
    | cons a b => exact .cons ⟨_, h, a⟩ (paired_both t b)
def rSortK (K : PySem.W.Frag) (f : Addr) (sp : Sp) : List V → List V → Hp → VK → Prop := fun vs zs H Q => ∃ (β : Type) (R0 : V → β → Prop) (kd : β → PyData) (a : Addr) (xs : List V) (bs : List β), vs = [.ref a] ∧ zs = [.ref f] ∧ SqL K H a xs ∧ Paired R0 xs bs ∧
  AllAlike (bs.map kd) ∧ Sortable (bs.map kd) ∧ (∀ z ∈ bs, (kd z).depth ≤ 1) ∧
  (∀ v z H1, R0 v z → z ∈ bs → Same H H1 → ∀ Q : VK, (∀ u H2, Same H1 H2 → KeyD H2 u (kd z) → Q u H2) → sp [v] H1 Q E0) ∧
  ∀ p ys H', H p = none → Same H H' → H' p = some (.lst ys) → Paired R0 ys (bs.mergeSort (dataLe false kd)) → Q (.ref p) H'
section
variable {X : Cx} {j k : Nat} {sp : Sp} {x px : Str}
theorem stk_not {pins : List (Addr × Obj)} {σ : L2.St} {H : Hp} {s : Shared} (I : Inv X pins σ H s) {b : Addr} (hb : s.heap.objs.size ≤ b) : b ∉ frs X.stack := fun z => by
  rcases List.mem_cons.mp (I.stkSub b z) with e | e
  · have := I.lt
    exact absurd (Nat.lt_of_lt_of_le this (e ▸ hb)) (Nat.lt_irrefl _)
  · exact I.nofs hb e
theorem cr_sortK (F : Kn X.prog X.w X.K X.mg X.base x j [px] sp) (hr : Room k X.A) (hjk : j + 2 ≤ k := by decide) : CallRK X (.builtin "sorted") [Str.ofString "key"] (rSortK X.K (He.ga X.K x) sp) := by
  intro pins s σ H vs zs us ws Q I r rz h
  obtain ⟨β, R0, kd, l, xs, bs, rfl, rfl, hs, hp, hal, hso, hdp, hkey, q⟩ := h
  obtain ⟨its, rv, hl, hz⟩ := I.list hs
  rw [Vals.ref1 r, Vals.ref1 rz]
  have hlen : its.length ≤ sizeLine := by rw [← rv.length]; exact hz
  have hbl : bs.length = its.length := by rw [← hp.len, rv.length]
  have hr2 : Room j X.A.in1.in1 := (hr.mono hjk).in1.in1
  show wpAny _ _ (call (.builtin "sorted") [.ref l] [(Str.ofString "key", .ref (He.ga X.K x))]) _ _ _
  refine PySem.W.sorted_of_sort hl.isList hlen (args_sorted_key _ _) (fun y => args_sort_key y _) fun E' => ?_
  rw [PyProof.Rows.ksk_t1]
  generalize ha : s.heap.objs.size + 1 = a
  have ho := PySem.W.copyHeap_at s.heap its
  rw [ha] at ho
  have hle : s.heap.objs.size ≤ a := by omega
  have fa := I.fpOk (H' := H) hle (I.hok.fresh hle)
  have up : ∀ b o, s.heap.get? b = some o → (sortingHeap (copyHeap s.heap its) a its).get? b = some o := fun b o e =>
    PySem.W.sortingHeap_old (Nat.ne_of_lt (Nat.lt_of_lt_of_le (Heap.lt_size e) hle)) (PySem.W.copyHeap_old e)
  obtain ⟨e1, ho1⟩ : ∃ e1, ((copyHeap s.heap its).update a (Obj.mapSeq fun _ => (#[] : Array Value))).get? a = some (seqObj "list" #[] e1) := ⟨_, get?_update_seq ho fun _ => #[]⟩
  have hkS : (((copyHeap s.heap its).update a (Obj.mapSeq fun _ => (#[] : Array Value))).push (seqObj "tuple" its.toArray 0)).objs.size = (copyHeap s.heap its).objs.size + 1 := by rw [size_push', Heap.size_update]
  have hca : a < (copyHeap s.heap its).objs.size := Heap.lt_size ho
  unfold PyProof.Rows.ksk_tree
  refine wpAny_bind (listItems_at ho rfl ?_)
  refine wpAny_bind (listUpdate_at ho rfl ?_ (by rw [List.size_toArray]; exact hlen) (Nat.zero_le _))
  refine wpAny_bind (seqEpoch_at ho1 rfl ?_)
  refine wpAny_bind (wpAny_newTuple ?_ (by show its.length ≤ _; exact hlen))
  refine wpAny_bind (wpAny_newList ?_ (Nat.zero_le _))
  refine wpAny_holding ?_
  have nk0 : (sortingHeap (copyHeap s.heap its) a its).get? (((copyHeap s.heap its).update a (Obj.mapSeq fun _ => (#[] : Array Value))).push (seqObj "tuple" its.toArray 0)).objs.size = some (seqObj "list" #[] 0) := Heap.get?_push_size _ rfl
  have na0 : (sortingHeap (copyHeap s.heap its) a its).get? a = some (seqObj "list" #[] e1) := Heap.get?_push_of_some _ (Heap.get?_push_of_some _ ho1)
  have I1 : Inv X pins σ H { s with heap := sortingHeap (copyHeap s.heap its) a its } := I.kept (t' := s.toks) up
  show wpAny _ _ (ksk_rest a (.ref (He.ga X.K x)) false its.toArray e1 (.ref (((copyHeap s.heap its).update a (Obj.mapSeq fun _ => (#[] : Array Value))).push (seqObj "tuple" its.toArray 0)).objs.size)) _ _ { s with heap := sortingHeap (copyHeap s.heap its) a its }
  generalize hkk : (((copyHeap s.heap its).update a (Obj.mapSeq fun _ => (#[] : Array Value))).push (seqObj "tuple" its.toArray 0)).objs.size = kS at *
  have hka : kS ≠ a := by omega
  have hkle : s.heap.objs.size ≤ kS := by omega
  have fk := I.fpOk (H' := H) hkle (I.hok.fresh hkle)
  generalize sortingHeap (copyHeap s.heap its) a its = h1 at *
  obtain ⟨fa0, fa1, fa2, fa3, fa4, fa5⟩ := fa
  obtain ⟨fk0, fk1, fk2, fk3, fk4, fk5⟩ := fk
  have sa := stk_not I hle
  have sk := stk_not I hkle
  unfold ksk_rest
  refine wpAny_bind (wpAny_rule ?_)
  first
    | rw [List.forIn_toArray]
    | (rw [← Array.forIn_toList]; simp only [List.toList_toArray])
    | rw [← Array.forIn_toList]
  refine wpAny_bind (PyProof.Rows.ksk_fold (fun i s' => ∃ Hj kA e kvs, Inv X pins σ Hj s' ∧ Same H Hj ∧ s'.heap.get? kS = some (seqObj "list" kA e) ∧ s'.heap.get? a = some (seqObj "list" #[] e1) ∧ Hj kS = none ∧ Hj a = none ∧ Vals kvs kA.toList ∧ Paired (fun u z => KeyD Hj u (kd z)) kvs (bs.take i)) its 0 _
    ⟨H, #[], 0, [], I1, Same.refl H, nk0, na0, fk0, fa0, .nil, by rw [List.take_zero]; exact .nil⟩ ?step ?done)
  case step =>
    rintro i u s' hu ⟨Hj, kA, e, kvs, J, SJ, nk, na, hk0, ha0, hv, hpk⟩
    simp only [Nat.zero_add] at hpk ⊢
    have hi : i < its.length := (List.getElem?_eq_some_iff.mp hu).1
    obtain ⟨z, hz1⟩ : ∃ z, bs[i]? = some z := ⟨_, List.getElem?_eq_getElem (by omega)⟩
    obtain ⟨v, hv1, hR⟩ := hp.get2 hz1
    obtain ⟨u', hu', rvu⟩ := rv.get hv1
    rw [hu] at hu'
    cases hu'
    have e0 := J.env0.in1.in1
    have run := F.ok.run X.A.in1.in1 X.stack s' Hj ⟨[u], []⟩ [u] [v] (fun u H2 => Same Hj H2 ∧ KeyD H2 u (kd z)) E0 hr2 e0 (F.bd s' [u] J.kIn rfl) (.cons rvu .nil) (hkey v z Hj hR (List.mem_of_getElem? hz1) SJ _ fun u H2 S hd => ⟨S, hd⟩)
    have hz : kA.size ≤ its.length := by
      have h9 : kA.size = kvs.length := by rw [hv.length, Array.length_toList]
      have h8 : kvs.length = min i bs.length := by rw [hpk.len, List.length_take]
      omega
    refine wpAny_bind (wpAny_attempt (wpAny_call (codeAny_mono run fun r s2 hq => ?_)))
    cases r with
    | error er => exact False.elim hq
    | ok fl =>
      cases fl with
      | next => exact False.elim hq
      | brk => exact False.elim hq
      | cont => exact False.elim hq
      | ret w0 =>
        have hq' := hq
        obtain ⟨y, H2, os, bare, un, hok, ry, S2, hd⟩ := hq'
        have nk2 := un.keep kS _ nk hk0 sk (by simp)
        have na2 := un.keep a _ na ha0 sa (by simp)
        have hk2 := un.free kS _ nk hk0 (by simp)
        have ha2 := un.free a _ na ha0 (by simp)
        have J2 : Inv X pins σ H2 s2 := by
          obtain ⟨hh, g, d, t, os'⟩ := s2
          obtain rfl : os' = s'.os := os
          exact J.call (h' := hh) (g' := g) (d' := d) (t' := t) (ch := []) un hok bare (fun b z => absurd z (by simp))
        try dsimp only
        have s1 := Heap.SameBut.update s2.heap kS (Obj.mapSeq (·.push w0))
        obtain ⟨c2, hc2⟩ : ∃ c2, (s2.heap.update kS (Obj.mapSeq (·.push w0))).get? kS = some (seqObj "list" (kA.push w0) c2) := ⟨_, get?_update_seq nk2 (·.push w0)⟩
        refine wpAny_bind (listUpdate_at nk2 rfl ?_ (Nat.le_trans hz hlen) (Nat.le_trans (Nat.le_of_eq (Array.size_push ..)) (Nat.succ_le_succ (Nat.le_trans hz hlen))))
        have ea : (kA.push w0).toList = kA.toList ++ [w0] := by simp
        have ek : bs.take (i + 1) = bs.take i ++ [z] := by rw [List.take_add_one, hz1]; rfl
        refine wpAny_pure ⟨rfl, H2, kA.push w0, c2, kvs ++ [y], J2.turned (t' := s2.toks) (fun b o hb e => (s1.2 b hb).trans e) hk2 fk1 fk3 fk4 fk5, SJ.trans S2, hc2, (s1.2 a hka.symm).trans na2, hk2, ha2, ?_, ?_⟩
        · rw [ea]
          exact hv.append (.cons ry .nil)
        · rw [ek]
          exact Paired.app (Paired.impl (fun _ _ h => S2.keyD h) hpk) (Paired.one hd)
  case done =>
    rintro s' ⟨Hj, kA, e, kvs, J, SJ, nk, na, hk0, ha0, hv, hpk⟩
    have e3 : bs.take (0 + its.length) = bs := List.take_of_length_le (by omega)
    rw [e3] at hpk
    have hk' : EachIs (fun v d => ∃ as, Reads s'.heap v d as) kA.toList (bs.map kd) := by
      refine each_of_paired (Paired.mapR (Paired.impl ?_ (paired_both hv hpk)))
      rintro u z ⟨v, r1, r2⟩
      exact Dp.reads J _ v u r2.dp r1
    have hsz : kA.size = its.length := by
      have h1 := hk'.length
      rw [Array.length_toList, List.length_map] at h1
      omega
    try dsimp only
    refine wpAny_bind (listItems_at nk rfl ?_)
    have hd : ∀ d, d ∈ bs.map kd → X.A.in1.in1.units + d.depth < cLine := fun d hd => by
      obtain ⟨z, hz1, rfl⟩ := List.mem_map.mp hd
      have h1 := hdp z hz1
      have h2 := hr2.units
      omega
    refine PySem.W.keyH_end (κ := dataKind s'.heap (bs.map kd)) (h₁ := PySem.W.hideAll s'.heap [kS]) (fun b o _ e => PySem.W.of_hideAll [kS] e) (PySem.W.hideAll_none [kS] (by simp)) nk na hka (SortsAt.data (s := s') hk' hal hso hd) hsz hlen fun h3 tk3 c k3 n3 => ⟨rfl, ?_⟩
    have hR : EachIs (fun u z => ∃ v, L2.RelV v u ∧ R0 v z) its bs := each_of_paired (paired_both rv hp)
    have hout := PySem.W.keyedOut_each (rev := false) (out := sortVals (dataKind s'.heap (bs.map kd)) false kA.toList its) kd (⟨s'.heap, kA.toList, hal, rfl, hk'⟩) hR
    generalize sortVals (dataKind s'.heap (bs.map kd)) false kA.toList its = out at *
    obtain ⟨ys, y1, y2⟩ := paired_mid (paired_of_each hout)
    have keepB : ∀ b o, b ≠ a → b ≠ kS → s'.heap.get? b = some o → h3.get? b = some o := fun b o h1 h2 e => k3 b o h1 (PySem.W.hideAll_get [kS] e (by simpa using h2))
    have hls : ys.length ≤ sizeLine := by
      rw [y2.len, List.length_mergeSort, hbl]
      exact hlen
    have J3 : Inv X pins σ (upd Hj a (.lst ys)) { s' with heap := h3, toks := tk3 } := by
      have nH : ∀ b u, Hj b = some u → b ≠ a ∧ b ≠ kS := fun b u e => ⟨fun z => (by rw [z, ha0] at e; cases e), fun z => (by rw [z, hk0] at e; cases e)⟩
      refine J.step (g' := s'.gens) (d' := s'.drawn) (ch := [a, kS]) ?_ ?_ ?_ ?_ ?_ ?_ ?_ ?_ ?_ ?_ J.bare
      · intro b hb
        rcases List.mem_cons.mp hb with rfl | hb
        · exact ⟨fa3, fa1, fa4, fa5⟩
        · rw [List.mem_singleton.mp hb]
          exact ⟨fk3, fk1, fk4, fk5⟩
      · exact fun b o _ _ hb e _ => keepB b o (fun z => hb (by simp [z])) (fun z => hb (by simp [z])) e
      · exact fun b o _ _ hb e _ => ⟨o.slots, keepB b o (fun z => hb (by simp [z])) (fun z => hb (by simp [z])) e⟩
      · exact fun b o hb e n => by rw [upd_ne (fun z => hb (by simp [z]))]; exact n
      · exact fun b o hb e => ⟨o, keepB b o (fun z => hb (by simp [z])) (fun z => hb (by simp [z])) e⟩
      · exact fun b zs e => by rw [upd_ne (nH b _ e).1]; exact e
      · exact fun b o u e => by rw [upd_ne (nH b _ e).1]; exact e
      · exact fun b ps e => ⟨#[], by rw [upd_ne (nH b _ e).1, e]; simp⟩
      · intro m hm
        obtain ⟨o, es, ep, ho', r'⟩ := hm
        exact ⟨o, es, ep, keepB _ o (Ne.symm fa1) (Ne.symm fk1) ho', r'⟩
      · intro b u e
        by_cases hb : b = a
        · subst hb
          rw [upd_same] at e
          cases e
          exact ⟨hls, out, c, y1, n3⟩
        · rw [upd_ne hb] at e
          refine (J.hok b u e).stay (fun c v hc q => ?_) (fun c q => by rw [upd_ne (nH c _ q).1]; exact q) fun c zs q => by rw [upd_ne (nH c _ q).1]; exact q
          rcases hc with rfl | hc
          · exact keepB _ v (nH _ _ e).1 (nH _ _ e).2 q
          · exact keepB _ v (nH _ _ hc).1 (nH _ _ hc).2 q
    exact ⟨.ref a, _, J3, rfl, q a ys _ fa0 (SJ.upd3 ha0) upd_same y2⟩
end
end BFW
namespace BFW
open PySem PySem.Spec PyProof.Rows L2 BFH
open Kvg6 (Box Item)
open BF (BoxOk ItOk)
section
variable {P : Program} {w : World} {K : PySem.W.Frag} {mg : Str → Option Value} {base : Heap}
def spCoord : Sp := fun vs H Q _ => ∃ n : Int, vs = [.int n] ∧ Q (.bl (Kvg6.isCoordinate n)) H
theorem coord_eq (n : Int) : Kvg6.isCoordinate n = (decide (-1073741824 ≤ n) && decide (n ≤ 1073741823)) := by
  unfold Kvg6.isCoordinate
  by_cases h : n < 1073741824
  · rw [decide_eq_true h, decide_eq_true (by omega : n ≤ 1073741823)]
  · rw [decide_eq_false h, decide_eq_false (by omega : ¬ n ≤ 1073741823)]
theorem sc_is_coordinate : FnScope ["value"] ["value"] (defScope s_is_coordinate) := ⟨rfl, rfl, rfl, by decide +kernel, rfl, by decide +kernel, by decide +kernel⟩
theorem k_is_coordinate (T : Tx K mg) : Kn P w K mg base "is_coordinate" 1 ["value"] (spCoord) := by
  have F := T.fn1 2 (x := "is_coordinate") (st := s_is_coordinate) rfl
  have sc := sc_is_coordinate
  obtain ⟨tGREATEST, gGREATEST⟩ := T.int 111 (x := "GREATEST") rfl
  obtain ⟨tLEAST, gLEAST⟩ := T.int 110 (x := "LEAST") rfl
  let st : Stmt := s_is_coordinate
  let nn : List Str := ["value"]
  refine ⟨F.ok sc (fun vs H Q E h => ?_) (fun cdv A outer s H vs Q E hr h => ?_), F.binds fun _ _ _ _ _ _ us hl => match us, hl with | [_], _ => rfl, F.kp, T.glo 1⟩

  · obtain ⟨n, rfl, _⟩ := h
    rfl
  obtain ⟨n, rfl, k⟩ := h
  refine ⟨_, (pss_one (ps_ret (pe_chain op_le op_le (pe_glob (v := .int (-1073741824)) rfl gLEAST ⟨_, rfl⟩) (pv 0) (pe_glob (v := .int (1073741823)) rfl gGREATEST ⟨_, rfl⟩)))), ?_⟩
  refine ⟨_, rfl, _, _, rfl, rfl, _, rfl, ?_⟩
  rw [coord_eq] at k
  by_cases c : (-1073741824 : Int) ≤ n
  · rw [decide_eq_true c] at k ⊢
    exact iteT ⟨_, _, rfl, rfl, k⟩
  · rw [decide_eq_false c] at k ⊢
    exact iteF k
def spArea : Sp := fun vs H Q _ => ∃ (q : Addr) (b : Box), vs = [.ref q] ∧ BoxAt H q b ∧ Q (.int b.area) H
theorem sc_area : FnScope ["box"] ["box"] (defScope s_area) := ⟨rfl, rfl, rfl, by decide +kernel, rfl, by decide +kernel, by decide +kernel⟩
theorem k_area (T : Tx K mg) : Kn P w K mg base "area" 1 ["box"] (spArea) := by
  have F := T.fn1 4 (x := "area") (st := s_area) rfl
  have sc := sc_area
  let st : Stmt := s_area
  let nn : List Str := ["box"]
  refine ⟨F.ok sc (fun vs H Q E h => ?_) (fun cdv A outer s H vs Q E hr h => ?_), F.binds fun _ _ _ _ _ _ us hl => match us, hl with | [_], _ => rfl, F.kp, T.glo 3⟩

  · obtain ⟨q, b, rfl, _⟩ := h
    rfl
  obtain ⟨q, b, rfl, ⟨h, ok⟩, k⟩ := h
  refine ⟨_, (pss_one (ps_ret (pe_op op_mul (pe_op op_sub (pe_ix ix_tup (pv 0) pe_int (fun _ _ => rfl)) (pe_ix ix_tup (pv 0) pe_int (fun _ _ => rfl))) (pe_op op_sub (pe_ix ix_tup (pv 0) pe_int (fun _ _ => rfl)) (pe_ix ix_tup (pv 0) pe_int (fun _ _ => rfl)))))), ?_⟩
  refine ⟨_, rfl, _, _, _, _, rfl, rfl, .inl (.inl h), rfl, _, rfl, _, _, _, _, rfl, rfl, .inl (.inl h), rfl, _, _, rfl, rfl, _, rfl, _, _, _, _, rfl, rfl, .inl (.inl h), rfl, _, rfl, _, _, _, _, rfl, rfl, .inl (.inl h), rfl, _, _, rfl, rfl, _, _, rfl, rfl, .inl ?_, k⟩
  obtain ⟨⟨h1, h2, h3⟩, h4, h5, h6⟩ := ok
  constructor <;> omega
theorem min_if (a b : Int) : (if b < a then b else a) = min a b := by omega
theorem max_if (a b : Int) : (if b > a then b else a) = max a b := by omega
/-- a new tuple with a box -/
def NewBox (H : Hp) (b : Box) (Q : VK) : Prop := ∀ q H', H q = none → Same H H' → BoxAt H' q b → Q (.ref q) H'
def spJoin : Sp := fun vs H Q _ => ∃ (q r : Addr) (a b : Box), vs = [.ref q, .ref r] ∧ BoxAt H q a ∧ BoxAt H r b ∧ NewBox H (Kvg6.join a b) Q
theorem join_ok {a b : Box} (h : BoxOk a) (g : BoxOk b) : BoxOk (Kvg6.join a b) := by
  unfold BoxOk at *
  unfold Kvg6.join
  refine ⟨⟨?_, ?_, ?_⟩, ?_, ?_, ?_⟩ <;> (show _ ≤ _) <;> simp only [] <;> omega
theorem sc_joined : FnScope ["one", "other"] ["one", "other"] (defScope s_joined) := ⟨rfl, rfl, rfl, by decide +kernel, rfl, by decide +kernel, by decide +kernel⟩
theorem k_joined (T : Tx K mg) : Kn P w K mg base "joined" 1 ["one", "other"] (spJoin) := by
  have F := T.fn1 5 (x := "joined") (st := s_joined) rfl
  have sc := sc_joined
  let st : Stmt := s_joined
  let nn : List Str := ["one", "other"]
  refine ⟨F.ok sc (fun vs H Q E h => ?_) (fun cdv A outer s H vs Q E hr h => ?_), F.binds fun _ _ _ _ _ _ us hl => match us, hl with | [_, _], _ => rfl, F.kp, T.glo 4⟩

  · obtain ⟨q, r, a, b, rfl, _⟩ := h
    rfl
  obtain ⟨q, r, a, b, rfl, ⟨h, ok⟩, ⟨g, ok2⟩, k⟩ := h
  refine ⟨_, (pss_one (ps_ret (pe_tup (pa_cons (pe_callB (call_min2 rfl) (by rfl) (T.free 93) boot_min (pa_cons (pe_ix ix_tup (pv 0) pe_int (fun _ _ => rfl)) (pa_cons (pe_ix ix_tup (pv 1) pe_int (fun _ _ => rfl)) pa_nil))) (pa_cons (pe_callB (call_min2 rfl) (by rfl) (T.free 93) boot_min (pa_cons (pe_ix ix_tup (pv 0) pe_int (fun _ _ => rfl)) (pa_cons (pe_ix ix_tup (pv 1) pe_int (fun _ _ => rfl)) pa_nil))) (pa_cons (pe_callB (call_max2 rfl) (by rfl) (T.free 94) boot_max (pa_cons (pe_ix ix_tup (pv 0) pe_int (fun _ _ => rfl)) (pa_cons (pe_ix ix_tup (pv 1) pe_int (fun _ _ => rfl)) pa_nil))) (pa_cons (pe_callB (call_max2 rfl) (by rfl) (T.free 94) boot_max (pa_cons (pe_ix ix_tup (pv 0) pe_int (fun _ _ => rfl)) (pa_cons (pe_ix ix_tup (pv 1) pe_int (fun _ _ => rfl)) pa_nil))) pa_nil))))))), ?_⟩
  refine ⟨_, rfl, _, _, _, _, rfl, rfl, .inl (.inl h), rfl, _, rfl, _, _, _, _, rfl, rfl, .inl (.inl g), rfl, _, _, rfl, _, rfl, _, _, _, _, rfl, rfl, .inl (.inl h), rfl, _, rfl, _, _, _, _, rfl, rfl, .inl (.inl g), rfl, _, _, rfl, _, rfl, _, _, _, _, rfl, rfl, .inl (.inl h), rfl, _, rfl, _, _, _, _, rfl, rfl, .inl (.inl g), rfl, _, _, rfl, _, rfl, _, _, _, _, rfl, rfl, .inl (.inl h), rfl, _, rfl, _, _, _, _, rfl, rfl, .inl (.inl g), rfl, _, _, rfl, by show (4 : Nat) ≤ sizeLine; decide, fun p hp => ?_⟩
  rw [min_if, min_if, max_if, max_if]
  exact k p _ hp (Same.upd hp) ⟨upd_same, join_ok ok ok2⟩
/-- a reference to a box -/
def RefBox (H : Hp) (v : V) (b : Box) : Prop := ∃ r, v = .ref r ∧ BoxAt H r b
theorem _root_.L2.Same.refBox {H H' : Hp} {v : V} {b : Box} (S : Same H H') (h : RefBox H v b) : RefBox H' v b := by
  obtain ⟨r, e, h⟩ := h
  exact ⟨r, e, S.box h⟩
theorem call_max3 {X : Cx} (hc : X.calm = true) : CallR X (.builtin "max") (fun xs H Q => ∃ i j l, xs = [.int i, .int j, .int l] ∧ Q (.int (max i (max j l))) H) := by
  intro pins s σ H xs us Q I r h
  obtain ⟨i, j, l, rfl, q⟩ := h
  cases r with
  | cons r1 r =>
    cases r with
    | cons r2 r =>
      cases r with
      | cons r3 r =>
        cases r
        obtain ⟨t1, rfl⟩ := r1
        obtain ⟨t2, rfl⟩ := r2
        obtain ⟨t3, rfl⟩ := r3
        refine max_three_ints (I.ok.hd hc) fun h' tk k => ⟨.int (max i (max j l)), H, I.kept k, ?_, q⟩
        by_cases h1 : j > i
        · by_cases h2 : l > j
          · rw [if_pos h1, if_pos h2]
            exact ⟨t3, by rw [show max i (max j l) = l by omega]⟩
          · rw [if_pos h1, if_neg h2]
            exact ⟨t2, by rw [show max i (max j l) = j by omega]⟩
        · by_cases h2 : l > i
          · rw [if_neg h1, if_pos h2]
            exact ⟨t3, by rw [show max i (max j l) = l by omega]⟩
          · rw [if_neg h1, if_neg h2]
            exact ⟨t1, by rw [show max i (max j l) = i by omega]⟩
/-- a new list -/
def NewList (H : Hp) (xs : List V) (Q : VK) : Prop := ∀ q H', H q = none → Same H H' → H' q = some (.lst xs) → Q (.ref q) H'
def spAll : Sp := fun vs H Q _ => ∃ (a : Addr) (xs : List V) (bs : List Box), vs = [.ref a] ∧ H a = some (.lst xs) ∧ Paired (RefBox H) xs bs ∧ bs ≠ [] ∧ NewBox H (Kvg6.joinAll bs) Q
theorem join_self (b : Box) : Kvg6.join b b = b := by
  unfold Kvg6.join
  rw [Int.min_self, Int.min_self, Int.max_self, Int.max_self]
theorem joinAll_fold {b : Box} {r : List Box} : Kvg6.joinAll (b :: r) = (b :: r).foldl Kvg6.join b := by
  rw [List.foldl_cons, join_self]
  rfl
theorem sc_joined_all : FnScope ["boxes", "found", "box"] ["boxes"] (defScope s_joined_all) := ⟨rfl, rfl, rfl, by decide +kernel, rfl, by decide +kernel, by decide +kernel⟩
theorem k_joined_all (T : Tx K mg) : Kn P w K mg base "joined_all" 2 ["boxes"] (spAll) := by
  have F := T.fn1 6 (x := "joined_all") (st := s_joined_all) rfl
  have sc := sc_joined_all
  let st : Stmt := s_joined_all
  let nn : List Str := ["boxes", "found", "box"]
  refine ⟨F.ok sc (fun vs H Q E h => ?_) (fun cdv A outer s H vs Q E hr h => ?_), F.binds fun _ _ _ _ _ _ us hl => match us, hl with | [_], _ => rfl, F.kp, T.glo 5⟩

  · obtain ⟨a, xs, bs, rfl, _⟩ := h
    rfl
  obtain ⟨a, xs, bs, rfl, ha, hp, hne, k⟩ := h
  refine ⟨_, (pss_cons (ps_set (i := 1) sc.nd rfl (Or.inl rfl) (pe_ix ix_list (pv 0) pe_int (fun _ _ => rfl)))
      (pss_cons (ps_for PassesOwn.never rfl (pi_list (pv 0)) (pg_name (i := 2) sc.nd rfl (Or.inl rfl)) (pss_one (ps_set (i := 1) sc.nd rfl (Or.inl rfl) (kc (k_joined T) hr (pa_cons (pv 1) (pa_cons (pv 2) pa_nil))))))
      (pss_one (ps_ret (pv 1))))), ?_⟩
  cases hp with
  | nil => exact absurd rfl hne
  | cons h0 ht =>
    rename_i x0 b0 xr br
    have hp : Paired (RefBox H) (x0 :: xr) (b0 :: br) := .cons h0 ht
    obtain ⟨r0, rfl, hb0⟩ := h0
    refine ⟨_, rfl, _, _, 0, _, rfl, rfl, .inl (.inl ha), at_of (j := 0) rfl rfl, ?_⟩
    refine ⟨_, rfl, a, rfl, ⟨_, .inl (.inl ha)⟩, ?_⟩
    refine for_list (xs := .ref r0 :: xr) (fun i σ H1 => ∃ f o, σ = [some (.ref a), some (.ref f), o] ∧ Same H H1 ∧ BoxAt H1 f (((b0 :: br).take i).foldl Kvg6.join b0) ∧ (i ≠ 0 → H f = none)) ?_ ?_ ?_ ?_
    · exact ⟨r0, _, rfl, Same.refl H, hb0, fun z => absurd rfl z⟩
    · rintro i σ H1 _ ⟨f, o, _, S, _⟩
      exact .inl (.inl (S _ _ ha))
    · rintro i x σ H1 hx ⟨f, o, rfl, S, hf, _⟩
      obtain ⟨b, hb, hxb⟩ := hp.get hx
      obtain ⟨r, rfl, hr1⟩ := S.refBox hxb
      refine ⟨_, rfl, _, rfl, f, r, _, b, rfl, hf, hr1, fun q H2 hq S2 hq2 => ?_⟩
      refine ⟨q, some (.ref r), rfl, S.trans S2, ?_, fun _ => S.free hq⟩
      rw [List.take_add_one, hb]
      show BoxAt H2 q (((b0 :: br).take i ++ [b]).foldl Kvg6.join b0)
      rw [List.foldl_append]
      exact hq2
    · rintro σ H1 ⟨f, o, rfl, S, hf, hn⟩
      have e : (V.ref r0 :: xr).length = (b0 :: br).length := hp.len
      rw [e, List.take_length, ← joinAll_fold] at hf
      exact ⟨_, rfl, k f H1 (hn (by simp)) S hf⟩
def spEnl : Sp := fun vs H Q _ => ∃ (q r : Addr) (a b : Box), vs = [.ref q, .ref r] ∧ BoxAt H q a ∧ BoxAt H r b ∧ ∀ H', Same H H' → Q (.int (Kvg6.enlargement a b)) H'
theorem sc_enlargement : FnScope ["box", "other"] ["box", "other"] (defScope s_enlargement) := ⟨rfl, rfl, rfl, by decide +kernel, rfl, by decide +kernel, by decide +kernel⟩
theorem k_enlargement (T : Tx K mg) : Kn P w K mg base "enlargement" 2 ["box", "other"] (spEnl) := by
  have F := T.fn1 7 (x := "enlargement") (st := s_enlargement) rfl
  have sc := sc_enlargement
  let st : Stmt := s_enlargement
  let nn : List Str := ["box", "other"]
  refine ⟨F.ok sc (fun vs H Q E h => ?_) (fun cdv A outer s H vs Q E hr h => ?_), F.binds fun _ _ _ _ _ _ us hl => match us, hl with | [_, _], _ => rfl, F.kp, T.glo 6⟩

  · obtain ⟨q, r, a, b, rfl, _⟩ := h
    rfl
  obtain ⟨q, r, a, b, rfl, h, g, k⟩ := h
  refine ⟨_, (pss_one (ps_ret (pe_op op_sub (kc (k_area T) hr (pa_cons (kc (k_joined T) hr (pa_cons (pv 0) (pa_cons (pv 1) pa_nil))) pa_nil)) (kc (k_area T) hr (pa_cons (pv 0) pa_nil))))), ?_⟩
  exact ⟨_, rfl, _, rfl, q, r, a, b, rfl, h, g, fun p H1 hp S h1 => ⟨p, _, rfl, h1, _, rfl, q, a, rfl, S.box h, _, _, rfl, rfl, k H1 S⟩⟩
/-- a tuple of four numbers -/
def Bx (H : Hp) (q : Addr) (b : Box) : Prop := H q = some (.tup (bxV b))
def spMeet : Sp := fun vs H Q _ => ∃ (q r : Addr) (a b : Box), vs = [.ref q, .ref r] ∧ Bx H q a ∧ Bx H r b ∧ Q (.bl (Kvg6.intersects a b)) H
theorem ite_and4 {c : Prop} [Decidable c] {A B : Prop} (h2 : ¬ c → B) (h1 : c → A) : if decide c = true then A else B := by
  by_cases h : c
  · rw [if_pos (decide_eq_true h)]
    exact h1 h
  · rw [if_neg (by rw [decide_eq_false h]; decide)]
    exact h2 h
theorem sc_intersect : FnScope ["one", "other"] ["one", "other"] (defScope s_intersect) := ⟨rfl, rfl, rfl, by decide +kernel, rfl, by decide +kernel, by decide +kernel⟩
theorem k_intersect (T : Tx K mg) : Kn P w K mg base "intersect" 1 ["one", "other"] (spMeet) := by
  have F := T.fn1 8 (x := "intersect") (st := s_intersect) rfl
  have sc := sc_intersect
  let st : Stmt := s_intersect
  let nn : List Str := ["one", "other"]
  refine ⟨F.ok sc (fun vs H Q E h => ?_) (fun cdv A outer s H vs Q E hr h => ?_), F.binds fun _ _ _ _ _ _ us hl => match us, hl with | [_, _], _ => rfl, F.kp, T.glo 7⟩

  · obtain ⟨q, r, a, b, rfl, _⟩ := h
    rfl
  obtain ⟨q, r, a, b, rfl, h, g, k⟩ := h
  refine ⟨_, (pss_one (ps_ret (pe_and (pe_cmpR op_le (pe_ix ix_tup (pv 0) pe_int (fun _ _ => rfl)) (pe_ix ix_tup (pv 1) pe_int (fun _ _ => rfl)) (nomark _)) (pe_and (pe_cmpR op_le (pe_ix ix_tup (pv 1) pe_int (fun _ _ => rfl)) (pe_ix ix_tup (pv 0) pe_int (fun _ _ => rfl)) (nomark _)) (pe_and (pe_cmpR op_le (pe_ix ix_tup (pv 0) pe_int (fun _ _ => rfl)) (pe_ix ix_tup (pv 1) pe_int (fun _ _ => rfl)) (nomark _)) (pe_one (pe_cmpR op_le (pe_ix ix_tup (pv 1) pe_int (fun _ _ => rfl)) (pe_ix ix_tup (pv 0) pe_int (fun _ _ => rfl)) (nomark _)))))))), ?_⟩
  unfold Kvg6.intersects at k
  refine ⟨_, rfl, _, _, _, _, rfl, rfl, .inl (.inl h), rfl, _, rfl, _, _, _, _, rfl, rfl, .inl (.inl g), rfl, _, _, rfl, rfl, _, rfl, ite_and4 (fun z => ?_) fun z => ⟨_, rfl, _, _, _, _, rfl, rfl, .inl (.inl g), rfl, _, rfl, _, _, _, _, rfl, rfl, .inl (.inl h), rfl, _, _, rfl, rfl, _, rfl, ite_and4 (fun z2 => ?_) fun z2 => ⟨_, rfl, _, _, _, _, rfl, rfl, .inl (.inl h), rfl, _, rfl, _, _, _, _, rfl, rfl, .inl (.inl g), rfl, _, _, rfl, rfl, _, rfl, ite_and4 (fun z3 => ?_) fun z3 => ⟨_, rfl, _, _, _, _, rfl, rfl, .inl (.inl g), rfl, _, rfl, _, _, _, _, rfl, rfl, .inl (.inl h), rfl, _, _, rfl, rfl, ?_⟩⟩⟩⟩
  all_goals simp_all
def spCont : Sp := fun vs H Q _ => ∃ (q r : Addr) (a b : Box), vs = [.ref q, .ref r] ∧ Bx H q a ∧ Bx H r b ∧ Q (.bl (Kvg6.contains a b)) H
theorem sc_contains : FnScope ["outer", "inner"] ["outer", "inner"] (defScope s_contains) := ⟨rfl, rfl, rfl, by decide +kernel, rfl, by decide +kernel, by decide +kernel⟩
theorem k_contains (T : Tx K mg) : Kn P w K mg base "contains" 1 ["outer", "inner"] (spCont) := by
  have F := T.fn1 9 (x := "contains") (st := s_contains) rfl
  have sc := sc_contains
  let st : Stmt := s_contains
  let nn : List Str := ["outer", "inner"]
  refine ⟨F.ok sc (fun vs H Q E h => ?_) (fun cdv A outer s H vs Q E hr h => ?_), F.binds fun _ _ _ _ _ _ us hl => match us, hl with | [_, _], _ => rfl, F.kp, T.glo 8⟩

  · obtain ⟨q, r, a, b, rfl, _⟩ := h
    rfl
  obtain ⟨q, r, a, b, rfl, h, g, k⟩ := h
  refine ⟨_, (pss_one (ps_ret (pe_and (pe_cmpR op_le (pe_ix ix_tup (pv 0) pe_int (fun _ _ => rfl)) (pe_ix ix_tup (pv 1) pe_int (fun _ _ => rfl)) (nomark _)) (pe_and (pe_cmpR op_le (pe_ix ix_tup (pv 1) pe_int (fun _ _ => rfl)) (pe_ix ix_tup (pv 0) pe_int (fun _ _ => rfl)) (nomark _)) (pe_and (pe_cmpR op_le (pe_ix ix_tup (pv 0) pe_int (fun _ _ => rfl)) (pe_ix ix_tup (pv 1) pe_int (fun _ _ => rfl)) (nomark _)) (pe_one (pe_cmpR op_le (pe_ix ix_tup (pv 1) pe_int (fun _ _ => rfl)) (pe_ix ix_tup (pv 0) pe_int (fun _ _ => rfl)) (nomark _)))))))), ?_⟩
  unfold Kvg6.contains at k
  refine ⟨_, rfl, _, _, _, _, rfl, rfl, .inl (.inl h), rfl, _, rfl, _, _, _, _, rfl, rfl, .inl (.inl g), rfl, _, _, rfl, rfl, _, rfl, ite_and4 (fun z => ?_) fun z => ⟨_, rfl, _, _, _, _, rfl, rfl, .inl (.inl g), rfl, _, rfl, _, _, _, _, rfl, rfl, .inl (.inl h), rfl, _, _, rfl, rfl, _, rfl, ite_and4 (fun z2 => ?_) fun z2 => ⟨_, rfl, _, _, _, _, rfl, rfl, .inl (.inl h), rfl, _, rfl, _, _, _, _, rfl, rfl, .inl (.inl g), rfl, _, _, rfl, rfl, _, rfl, ite_and4 (fun z3 => ?_) fun z3 => ⟨_, rfl, _, _, _, _, rfl, rfl, .inl (.inl g), rfl, _, rfl, _, _, _, _, rfl, rfl, .inl (.inl h), rfl, _, _, rfl, rfl, ?_⟩⟩⟩⟩
  all_goals simp_all
/-- the program's overlap -/
def ovl (a b : Box) : Int := max 0 (min a.x1 b.x1 - max a.x0 b.x0) * max 0 (min a.y1 b.y1 - max a.y0 b.y0)
def spOvl : Sp := fun vs H Q _ => ∃ (q r : Addr) (a b : Box), vs = [.ref q, .ref r] ∧ BoxAt H q a ∧ BoxAt H r b ∧ Q (.int (ovl a b)) H
theorem sc_overlap : FnScope ["one", "other", "width", "height"] ["one", "other"] (defScope s_overlap) := ⟨rfl, rfl, rfl, by decide +kernel, rfl, by decide +kernel, by decide +kernel⟩
theorem k_overlap (T : Tx K mg) : Kn P w K mg base "overlap" 1 ["one", "other"] (spOvl) := by
  have F := T.fn1 10 (x := "overlap") (st := s_overlap) rfl
  have sc := sc_overlap
  let st : Stmt := s_overlap
  let nn : List Str := ["one", "other", "width", "height"]
  refine ⟨F.ok sc (fun vs H Q E h => ?_) (fun cdv A outer s H vs Q E hr h => ?_), F.binds fun _ _ _ _ _ _ us hl => match us, hl with | [_, _], _ => rfl, F.kp, T.glo 9⟩

  · obtain ⟨q, r, a, b, rfl, _⟩ := h
    rfl
  obtain ⟨q, r, a, b, rfl, ⟨h, ok⟩, ⟨g, ok2⟩, k⟩ := h
  refine ⟨_, (pss_cons (ps_set (i := 2) sc.nd rfl (Or.inl rfl) (pe_op op_sub (pe_callB (call_min2 rfl) (by rfl) (T.free 93) boot_min (pa_cons (pe_ix ix_tup (pv 0) pe_int (fun _ _ => rfl)) (pa_cons (pe_ix ix_tup (pv 1) pe_int (fun _ _ => rfl)) pa_nil))) (pe_callB (call_max2 rfl) (by rfl) (T.free 94) boot_max (pa_cons (pe_ix ix_tup (pv 0) pe_int (fun _ _ => rfl)) (pa_cons (pe_ix ix_tup (pv 1) pe_int (fun _ _ => rfl)) pa_nil)))))
      (pss_cons (ps_set (i := 3) sc.nd rfl (Or.inl rfl) (pe_op op_sub (pe_callB (call_min2 rfl) (by rfl) (T.free 93) boot_min (pa_cons (pe_ix ix_tup (pv 0) pe_int (fun _ _ => rfl)) (pa_cons (pe_ix ix_tup (pv 1) pe_int (fun _ _ => rfl)) pa_nil))) (pe_callB (call_max2 rfl) (by rfl) (T.free 94) boot_max (pa_cons (pe_ix ix_tup (pv 0) pe_int (fun _ _ => rfl)) (pa_cons (pe_ix ix_tup (pv 1) pe_int (fun _ _ => rfl)) pa_nil)))))
      (pss_one (ps_ret (pe_op op_mul (pe_callB (call_max2 rfl) (by rfl) (T.free 94) boot_max (pa_cons pe_int (pa_cons (pv 2) pa_nil))) (pe_callB (call_max2 rfl) (by rfl) (T.free 94) boot_max (pa_cons pe_int (pa_cons (pv 3) pa_nil)))))))), ?_⟩
  refine ⟨_, rfl, _, _, _, _, rfl, rfl, .inl (.inl h), rfl, _, rfl, _, _, _, _, rfl, rfl, .inl (.inl g), rfl, _, _, rfl, _, rfl, _, _, _, _, rfl, rfl, .inl (.inl h), rfl, _, rfl, _, _, _, _, rfl, rfl, .inl (.inl g), rfl, _, _, rfl, _, _, rfl, rfl, ?_⟩
  refine ⟨_, rfl, _, _, _, _, rfl, rfl, .inl (.inl h), rfl, _, rfl, _, _, _, _, rfl, rfl, .inl (.inl g), rfl, _, _, rfl, _, rfl, _, _, _, _, rfl, rfl, .inl (.inl h), rfl, _, rfl, _, _, _, _, rfl, rfl, .inl (.inl g), rfl, _, _, rfl, _, _, rfl, rfl, ?_⟩
  refine ⟨_, rfl, _, _, rfl, _, rfl, _, _, rfl, _, _, rfl, rfl, .inl ?_, ?_⟩
  · rw [max_if, min_if, max_if]
    obtain ⟨⟨h1, h2, h3⟩, h4, h5, h6⟩ := ok
    obtain ⟨⟨g1, g2, g3⟩, g4, g5, g6⟩ := ok2
    constructor <;> omega
  · rw [max_if, max_if, min_if, max_if, min_if, max_if]
    exact k
def spDist : Sp := fun vs H Q _ => ∃ (q r : Addr) (a b : Box), vs = [.ref q, .ref r] ∧ BoxAt H q a ∧ BoxAt H r b ∧ Q (.int (Kvg6.squaredDistance a b)) H
theorem sc_squared_distance : FnScope ["one", "other", "across", "upward"] ["one", "other"] (defScope s_squared_distance) := ⟨rfl, rfl, rfl, by decide +kernel, rfl, by decide +kernel, by decide +kernel⟩
theorem k_squared_distance (T : Tx K mg) : Kn P w K mg base "squared_distance" 1 ["one", "other"] (spDist) := by
  have F := T.fn1 11 (x := "squared_distance") (st := s_squared_distance) rfl
  have sc := sc_squared_distance
  let st : Stmt := s_squared_distance
  let nn : List Str := ["one", "other", "across", "upward"]
  refine ⟨F.ok sc (fun vs H Q E h => ?_) (fun cdv A outer s H vs Q E hr h => ?_), F.binds fun _ _ _ _ _ _ us hl => match us, hl with | [_, _], _ => rfl, F.kp, T.glo 10⟩

  · obtain ⟨q, r, a, b, rfl, _⟩ := h
    rfl
  obtain ⟨q, r, a, b, rfl, ⟨h, ok⟩, ⟨g, ok2⟩, k⟩ := h
  refine ⟨_, (pss_cons (ps_set (i := 2) sc.nd rfl (Or.inl rfl) (pe_callB (call_max3 rfl) (by rfl) (T.free 94) boot_max (pa_cons pe_int (pa_cons (pe_op op_sub (pe_ix ix_tup (pv 1) pe_int (fun _ _ => rfl)) (pe_ix ix_tup (pv 0) pe_int (fun _ _ => rfl))) (pa_cons (pe_op op_sub (pe_ix ix_tup (pv 0) pe_int (fun _ _ => rfl)) (pe_ix ix_tup (pv 1) pe_int (fun _ _ => rfl))) pa_nil)))))
      (pss_cons (ps_set (i := 3) sc.nd rfl (Or.inl rfl) (pe_callB (call_max3 rfl) (by rfl) (T.free 94) boot_max (pa_cons pe_int (pa_cons (pe_op op_sub (pe_ix ix_tup (pv 1) pe_int (fun _ _ => rfl)) (pe_ix ix_tup (pv 0) pe_int (fun _ _ => rfl))) (pa_cons (pe_op op_sub (pe_ix ix_tup (pv 0) pe_int (fun _ _ => rfl)) (pe_ix ix_tup (pv 1) pe_int (fun _ _ => rfl))) pa_nil)))))
      (pss_one (ps_ret (pe_op op_add (pe_op op_mul (pv 2) (pv 2)) (pe_op op_mul (pv 3) (pv 3))))))), ?_⟩
  refine ⟨_, rfl, _, _, _, _, rfl, rfl, .inl (.inl g), rfl, _, rfl, _, _, _, _, rfl, rfl, .inl (.inl h), rfl, _, _, rfl, rfl, _, rfl, _, _, _, _, rfl, rfl, .inl (.inl h), rfl, _, rfl, _, _, _, _, rfl, rfl, .inl (.inl g), rfl, _, _, rfl, rfl, _, _, _, rfl, ?_⟩
  refine ⟨_, rfl, _, _, _, _, rfl, rfl, .inl (.inl g), rfl, _, rfl, _, _, _, _, rfl, rfl, .inl (.inl h), rfl, _, _, rfl, rfl, _, rfl, _, _, _, _, rfl, rfl, .inl (.inl h), rfl, _, rfl, _, _, _, _, rfl, rfl, .inl (.inl g), rfl, _, _, rfl, rfl, _, _, _, rfl, ?_⟩
  obtain ⟨⟨h1, h2, h3⟩, h4, h5, h6⟩ := ok
  obtain ⟨⟨g1, g2, g3⟩, g4, g5, g6⟩ := ok2
  refine ⟨_, rfl, _, rfl, _, _, rfl, rfl, .inl ?_, _, rfl, _, rfl, _, _, rfl, rfl, .inl ?_, _, _, rfl, rfl, k⟩
  · constructor <;> omega
  · constructor <;> omega
def spQuart : Sp := fun vs H Q _ => ∃ x y hf : Int, vs = [.int x, .int y, .int hf] ∧ ∀ q H', H q = none → Same H H' → H' q = some (.tup [.int (BF.qOf x y hf).1, .int (BF.qOf x y hf).2.1, .int (BF.qOf x y hf).2.2]) → Q (.ref q) H'
theorem sc_quarter_of : FnScope ["x", "y", "half"] ["x", "y", "half"] (defScope s_quarter_of) := ⟨rfl, rfl, rfl, by decide +kernel, rfl, by decide +kernel, by decide +kernel⟩
theorem k_quarter_of (T : Tx K mg) : Kn P w K mg base "quarter_of" 1 ["x", "y", "half"] (spQuart) := by
  have F := T.fn1 12 (x := "quarter_of") (st := s_quarter_of) rfl
  have sc := sc_quarter_of
  let st : Stmt := s_quarter_of
  let nn : List Str := ["x", "y", "half"]
  refine ⟨F.ok sc (fun vs H Q E h => ?_) (fun cdv A outer s H vs Q E hr h => ?_), F.binds fun _ _ _ _ _ _ us hl => match us, hl with | [_, _, _], _ => rfl, F.kp, T.glo 11⟩

  · obtain ⟨x, y, hf, rfl, _⟩ := h
    rfl
  obtain ⟨x, y, hf, rfl, k⟩ := h
  refine ⟨_, (pss_cons (ps_if (pt_cmpR op_lt (pv 0) (pv 2) (nomark _)) (pss_one (ps_ret (pe_ifExp (pt_cmpR op_lt (pv 1) (pv 2) (nomark _)) (pe_tup (pa_cons pe_int (pa_cons (pv 1) (pa_cons (pv 0) pa_nil)))) (pe_tup (pa_cons pe_int (pa_cons (pv 0) (pa_cons (pe_op op_sub (pv 1) (pv 2)) pa_nil))))))) pss_nil)
      (pss_cons (ps_if (pt_cmpR op_lt (pv 1) (pv 2) (nomark _)) (pss_one (ps_ret (pe_tup (pa_cons pe_int (pa_cons (pe_op op_sub (pe_op op_sub (pv 2) pe_int) (pv 1)) (pa_cons (pe_op op_sub (pe_op op_sub (pe_op op_mul pe_int (pv 2)) pe_int) (pv 0)) pa_nil)))))) pss_nil)
      (pss_one (ps_ret (pe_tup (pa_cons pe_int (pa_cons (pe_op op_sub (pv 0) (pv 2)) (pa_cons (pe_op op_sub (pv 1) (pv 2)) pa_nil)))))))), ?_⟩
  unfold BF.qOf at k
  refine ⟨_, rfl, _, rfl, _, _, rfl, rfl, _, rfl, ?_⟩
  by_cases c1 : x < hf
  · rw [decide_eq_true c1]
    rw [if_pos c1] at k
    refine iteT ⟨_, rfl, _, rfl, _, _, rfl, rfl, _, rfl, ?_⟩
    by_cases c2 : y < hf
    · rw [decide_eq_true c2]
      rw [if_pos c2] at k
      exact iteT ⟨_, rfl, _, rfl, by show (3 : Nat) ≤ sizeLine; decide, fun p hp => k p _ hp (Same.upd hp) upd_same⟩
    · rw [decide_eq_false c2]
      rw [if_neg c2] at k
      exact iteF ⟨_, rfl, _, rfl, _, rfl, _, _, rfl, rfl, by show (3 : Nat) ≤ sizeLine; decide, fun p hp => k p _ hp (Same.upd hp) upd_same⟩
  · rw [decide_eq_false c1]
    rw [if_neg c1] at k
    refine iteF ⟨_, rfl, _, rfl, _, _, rfl, rfl, _, rfl, ?_⟩
    by_cases c2 : y < hf
    · rw [decide_eq_true c2]
      rw [if_pos c2] at k
      exact iteT ⟨_, rfl, _, _, rfl, rfl, _, rfl, _, _, rfl, rfl, _, rfl, _, _, rfl, rfl, .inl ⟨by omega, by omega⟩, _, _, rfl, rfl, _, rfl, _, _, rfl, rfl, by show (3 : Nat) ≤ sizeLine; decide, fun p hp => k p _ hp (Same.upd hp) upd_same⟩
    · rw [decide_eq_false c2]
      rw [if_neg c2] at k
      exact iteF ⟨_, rfl, _, rfl, _, _, rfl, rfl, _, rfl, _, rfl, _, _, rfl, rfl, by show (3 : Nat) ≤ sizeLine; decide, fun p hp => k p _ hp (Same.upd hp) upd_same⟩
def spHil : Sp := fun vs H Q _ => ∃ (q : Addr) (b : Box), vs = [.ref q] ∧ BoxAt H q b ∧ ∀ H', Same H H' → Q (.int (Kvg6.hilbertOf b : Int)) H'
theorem sc_hilbert : FnScope ["box", "half", "x", "y", "found", "turn", "quarter"] ["box"] (defScope s_hilbert) := ⟨rfl, rfl, rfl, by decide +kernel, rfl, by decide +kernel, by decide +kernel⟩
theorem k_hilbert (T : Tx K mg) : Kn P w K mg base "hilbert" 2 ["box"] (spHil) := by
  have F := T.fn1 13 (x := "hilbert") (st := s_hilbert) rfl
  have sc := sc_hilbert
  obtain ⟨tORDER, gORDER⟩ := T.int 112 (x := "ORDER") rfl
  let st : Stmt := s_hilbert
  let nn : List Str := ["box", "half", "x", "y", "found", "turn", "quarter"]
  refine ⟨F.ok sc (fun vs H Q E h => ?_) (fun cdv A outer s H vs Q E hr h => ?_), F.binds fun _ _ _ _ _ _ us hl => match us, hl with | [_], _ => rfl, F.kp, T.glo 12⟩

  · obtain ⟨q, b, rfl, _⟩ := h
    rfl
  obtain ⟨q, b, rfl, ⟨h, ok⟩, k⟩ := h
  refine ⟨_, (pss_cons (ps_set (i := 1) sc.nd rfl (Or.inl rfl) (pe_op op_pow pe_int pe_int))
      (pss_cons (ps_par (i := 2) (j := 3) rfl sc.nd rfl rfl (by decide) rfl rfl (pa_cons (pe_op op_add (pe_op op_add (pe_ix ix_tup (pv 0) pe_int (fun _ _ => rfl)) (pe_ix ix_tup (pv 0) pe_int (fun _ _ => rfl))) (pv 1)) (pa_cons (pe_op op_add (pe_op op_add (pe_ix ix_tup (pv 0) pe_int (fun _ _ => rfl)) (pe_ix ix_tup (pv 0) pe_int (fun _ _ => rfl))) (pv 1)) pa_nil)) (by rfl))
      (pss_cons (ps_set (i := 4) sc.nd rfl (Or.inl rfl) pe_int)
      (pss_cons (ps_for PassesOwn.never rfl (pi_range1 rfl (T.free 95) (pa_cons (pe_glob (v := .int (32)) rfl gORDER ⟨_, rfl⟩) pa_nil)) (pg_name (i := 5) sc.nd rfl (Or.inl rfl)) (pss_cons (ps_asg (kc (k_quarter_of T) hr (pa_cons (pv 2) (pa_cons (pv 3) (pa_cons (pv 1) pa_nil)))) (pg_tup rfl (pgs_cons (pg_name (i := 6) sc.nd rfl (Or.inl rfl)) (pgs_cons (pg_name (i := 2) sc.nd rfl (Or.inl rfl)) (pgs_cons (pg_name (i := 3) sc.nd rfl (Or.inl rfl)) pgs_nil)))))
      (pss_cons (ps_set (i := 4) sc.nd rfl (Or.inl rfl) (pe_op op_add (pv 4) (pe_op op_mul (pe_op op_mul (pv 6) (pv 1)) (pv 1))))
      (pss_one (ps_set (i := 1) sc.nd rfl (Or.inl rfl) (pe_op op_fdivW (pv 1) pe_int))))))
      (pss_one (ps_ret (pv 4))))))), ?_⟩
  refine ⟨_, _, rfl, rfl, ⟨by decide, by decide, by decide⟩, ?_⟩
  refine ⟨_, rfl, _, _, _, _, rfl, rfl, .inl (.inl h), rfl, _, rfl, _, _, _, _, rfl, rfl, .inl (.inl h), rfl, _, _, rfl, rfl, _, rfl, _, _, rfl, rfl, _, rfl, _, _, _, _, rfl, rfl, .inl (.inl h), rfl, _, rfl, _, _, _, _, rfl, rfl, .inl (.inl h), rfl, _, _, rfl, rfl, _, rfl, _, _, rfl, rfl, _, _, rfl, ?_⟩
  refine ⟨32, rfl, by decide, by decide, ?_⟩
  refine for_range (fun i σ H1 => ∃ x y f hf o o2, σ = [some (.ref q), some (.int hf), some (.int x), some (.int y), some (.int f), o, o2] ∧ Same H H1 ∧ BF.HilAt i x y f hf (Kvg6.hilbertOf b : Int)) ?_ ?_ ?_
  · exact ⟨_, _, _, _, _, _, rfl, Same.refl H, BF.hil_start ok⟩
  · rintro i σ H1 hi ⟨x, y, f, hf, o, o2, rfl, S, hh⟩
    obtain ⟨hs, ⟨q1, q2⟩, h1, h2⟩ := hh.step hi
    refine ⟨_, rfl, _, rfl, _, rfl, x, y, hf, rfl, fun p H2 hp S2 h3 => ?_⟩
    refine ⟨p, _, rfl, .inl (.inl h3), rfl, _, _, rfl, _, _, rfl, _, _, rfl, rfl, ?_⟩
    have hm : (BF.qOf x y hf).1 * hf ≤ 3 * hf := Int.mul_le_mul_of_nonneg_right q2 (by omega)
    have hm0 : 0 ≤ (BF.qOf x y hf).1 * hf := Int.mul_nonneg q1 (by omega)
    refine ⟨_, rfl, _, rfl, _, rfl, _, _, rfl, rfl, .inl ⟨by omega, by omega⟩, _, rfl, _, _, rfl, rfl, .inl ⟨by omega, by omega⟩, _, _, rfl, rfl, ?_⟩
    refine ⟨_, rfl, _, _, rfl, rfl, ⟨by decide, by decide⟩, ?_⟩
    exact ⟨_, _, _, _, _, _, rfl, S.trans S2, hs⟩
  · rintro σ H1 ⟨x, y, f, hf, o, o2, rfl, S, hh⟩
    refine ⟨_, rfl, ?_⟩
    rw [hh.done]
    exact k H1 S
end
end BFW
namespace BFW
open PySem PySem.Spec PyProof.Rows L2 BFH
open Kvg6 (Box Item)
open BF (BoxOk ItOk)
section
variable {P : Program} {w : World} {K : PySem.W.Frag} {mg : Str → Option Value} {base : Heap}
theorem kcl_Item (T : Tx K mg) : KCl K mg "Item" (He.ma K (He.ga K "Item") "__init__") := ⟨He.cls_ok (T.fact 121), He.mkr_ok (T.fact 122), T.glo 86⟩
theorem kcl_Node (T : Tx K mg) : KCl K mg "Node" (He.ma K (He.ga K "Node") "__init__") := ⟨He.cls_ok (T.fact 125), He.mkr_ok (T.fact 126), T.glo 87⟩
theorem no_Item_number (T : Tx K mg) : NoAttr K (He.ga K "Item") "number" := He.noat_ok (T.fact 123)
theorem no_Item_box (T : Tx K mg) : NoAttr K (He.ga K "Item") "box" := He.noat_ok (T.fact 124)
theorem no_Node_level (T : Tx K mg) : NoAttr K (He.ga K "Node") "level" := He.noat_ok (T.fact 127)
theorem no_Node_entries (T : Tx K mg) : NoAttr K (He.ga K "Node") "entries" := He.noat_ok (T.fact 128)
theorem no_Node_box (T : Tx K mg) : NoAttr K (He.ga K "Node") "box" := He.noat_ok (T.fact 129)
/-! ### attributes -/
theorem fld_number (T : Tx K mg) {H : Hp} {v : V} {it : Item} (h : ItemAt K H v it) {σ : L2.St} {ta : TE} {Q : VK} (ht : ∀ k : VK, k v H → ta σ H k) (k : Q (.int it.id) H) : tFld K ta "number" σ H Q := by
  obtain ⟨a, dx, q, rfl, h1, h2⟩ := h
  exact ht _ ⟨a, _, dx, _, _, rfl, h1, (kcl_Item T).cl, no_Item_number T, itF_number, k⟩
theorem fld_box (T : Tx K mg) {H : Hp} {v : V} {b : Box} (h : Ent K H v b) {σ : L2.St} {ta : TE} {Q : VK} (ht : ∀ k : VK, k v H → ta σ H k) (k : ∀ q, BoxAt H q b → Q (.ref q) H) : tFld K ta "box" σ H Q := by
  obtain ⟨a, C, dx, fs, q, rfl, h1, h2, h3⟩ := h
  rcases h2 with ⟨rfl, n, rfl⟩ | ⟨rfl, l, e, rfl⟩
  · exact ht _ ⟨a, _, dx, _, _, rfl, h1, (kcl_Item T).cl, no_Item_box T, itF_box, k q h3⟩
  · exact ht _ ⟨a, _, dx, _, _, rfl, h1, (kcl_Node T).cl, no_Node_box T, ndF_box, k q h3⟩
theorem fld_level (T : Tx K mg) {H : Hp} {p dx e : Addr} {l : Int} {bv : V} (h : H p = some (.ins (He.ga K "Node") dx (ndF l e bv))) {σ : L2.St} {ta : TE} {Q : VK} (ht : ∀ k : VK, k (.ref p) H → ta σ H k) (k : Q (.int l) H) : tFld K ta "level" σ H Q :=
  ht _ ⟨p, _, dx, _, _, rfl, h, (kcl_Node T).cl, no_Node_level T, ndF_level, k⟩
theorem fld_entries (T : Tx K mg) {H : Hp} {p dx e : Addr} {l : Int} {bv : V} (h : H p = some (.ins (He.ga K "Node") dx (ndF l e bv))) {σ : L2.St} {ta : TE} {Q : VK} (ht : ∀ k : VK, k (.ref p) H → ta σ H k) (k : Q (.ref e) H) : tFld K ta "entries" σ H Q :=
  ht _ ⟨p, _, dx, _, _, rfl, h, (kcl_Node T).cl, no_Node_entries T, ndF_entries, k⟩
theorem fld_nbox (T : Tx K mg) {H : Hp} {p dx e : Addr} {l : Int} {bv : V} (h : H p = some (.ins (He.ga K "Node") dx (ndF l e bv))) {σ : L2.St} {ta : TE} {Q : VK} (ht : ∀ k : VK, k (.ref p) H → ta σ H k) (k : Q bv H) : tFld K ta "box" σ H Q :=
  ht _ ⟨p, _, dx, _, _, rfl, h, (kcl_Node T).cl, no_Node_box T, ndF_box, k⟩
theorem tv {σ : L2.St} {H : Hp} {i : Nat} {v : V} (h : σ[i]? = some (some v)) (k : VK) (q : k v H) : tVar i σ H k := ⟨v, h, q⟩
/-! ### a tree's own node -/
def Kids (K : PySem.W.Frag) (H : Hp) (n : Nat) (xs : List V) : Kvg6.Tree → Prop
  | .leaf items => n = 0 ∧ Paired (ItemAt K H) xs items
  | .node ch => ∃ m, n = m + 1 ∧ Paired (TreeV K H m) xs ch
structure TreeAt (K : PySem.W.Frag) (H : Hp) (n : Nat) (t : Kvg6.Tree) (p dx e : Addr) (bv : V) (xs : List V) : Prop where
  node : H p = some (.ins (He.ga K "Node") dx (ndF ((n : Int) + 1) e bv))
  list : H e = some (.lst xs)
  ents : Paired (Ent K H) xs (Kvg6.boxesOfNode t)
  box : BoxV H bv (Kvg6.boxesOfNode t)
  four : xs.length ≤ 4
  kids : Kids K H n xs t
theorem TreeV.at_ {H : Hp} : ∀ {n : Nat} {v : V} {t : Kvg6.Tree}, TreeV K H n v t → ∃ p dx e bv xs, v = .ref p ∧ TreeAt K H n t p dx e bv xs
  | 0, v, .leaf items, h => by
    obtain ⟨h0, vs, ⟨p, dx, e, bv, rfl, h1, h2, h3, h4⟩, h5⟩ := h
    exact ⟨p, dx, e, bv, vs, rfl, h1, h2, h3, h4, by rw [h5.len]; exact h0, rfl, h5⟩
  | n + 1, v, .node ch, h => by
    obtain ⟨h0, vs, ⟨p, dx, e, bv, rfl, h1, h2, h3, h4⟩, h5⟩ := h
    exact ⟨p, dx, e, bv, vs, rfl, by rw [show (((n + 1 : Nat) : Int) + 1) = (n : Int) + 2 by omega]; exact h1, h2, h3, h4, by rw [h5.len]; exact h0, n, rfl, h5⟩
  | 0, _, .node _, h => h.elim
  | _ + 1, _, .leaf _, h => h.elim
theorem TreeAt.tree {H : Hp} {n : Nat} {t : Kvg6.Tree} {p dx e : Addr} {bv : V} {xs : List V} (h : TreeAt K H n t p dx e bv xs) : TreeV K H n (.ref p) t := by
  obtain ⟨h1, h2, h3, h4, h5, h6⟩ := h
  cases t with
  | leaf items =>
    obtain ⟨rfl, h6⟩ := h6
    exact ⟨by rw [← h6.len]; exact h5, xs, ⟨p, dx, e, bv, rfl, h1, h2, h3, h4⟩, h6⟩
  | node ch =>
    obtain ⟨m, rfl, h6⟩ := h6
    refine ⟨by rw [← h6.len]; exact h5, xs, ⟨p, dx, e, bv, rfl, ?_, h2, h3, h4⟩, h6⟩
    rw [show (((m + 1 : Nat) : Int) + 1) = (m : Int) + 2 by omega] at h1
    exact h1
theorem TreeV.thin {H : Hp} : ∀ {n : Nat} {v : V} {t : Kvg6.Tree}, TreeV K H n v t → BF.Thin n t
  | 0, v, .leaf items, h => h.1
  | n + 1, v, .node ch, h => by
    obtain ⟨h0, vs, _, h5⟩ := h
    refine ⟨h0, fun c hc => ?_⟩
    obtain ⟨i, hi⟩ := List.getElem?_of_mem hc
    obtain ⟨x, _, hx⟩ := h5.get2 hi
    exact TreeV.thin hx
  | 0, _, .node _, h => h.elim
  | _ + 1, _, .leaf _, h => h.elim
theorem box_is {n : Nat} {t : Kvg6.Tree} (h : BF.Bal n t) (hn : n ≤ 15) : t.box = Kvg6.joinAll (Kvg6.boxesOfNode t) := by
  cases t with
  | leaf items => rfl
  | node ch =>
    cases n with
    | zero => exact h.elim
    | succ n => exact BF.box_node h (by omega)
theorem TreeAt.bal {H : Hp} {n : Nat} {t : Kvg6.Tree} {p dx e : Addr} {bv : V} {xs : List V} (h : TreeAt K H n t p dx e bv xs) : BF.Bal n t := (TreeV.thin h.tree).bal
/-- a tree with entries has a box -/
theorem TreeAt.ent {H : Hp} {n : Nat} {t : Kvg6.Tree} {p dx e : Addr} {bv : V} {xs : List V} (h : TreeAt K H n t p dx e bv xs) (hn : n ≤ 15) (hx : xs ≠ []) : Ent K H (.ref p) t.box := by
  rw [box_is h.bal hn]
  rcases h.box with ⟨e1, _⟩ | ⟨_, q, rfl, hq⟩
  · have := h.ents.len
    rw [e1] at this
    exact absurd (List.eq_nil_of_length_eq_zero this) hx
  · exact ⟨p, _, dx, _, q, rfl, h.node, .inr ⟨rfl, _, _, rfl⟩, hq⟩
/-! ### Item, Node -/
def spItemI (K : PySem.W.Frag) : Sp := fun vs H Q _ => ∃ (p q dx : Addr) (n : Int), vs = [.ref p, .int n, .ref q] ∧ H p = some (.ins (He.ga K "Item") dx []) ∧ Q .non (upd H p (.ins (He.ga K "Item") dx (itF n q)))
theorem sc_Item_init : FnScope ["self", "number", "box"] ["self", "number", "box"] (defScope s_Item_init) := ⟨rfl, rfl, rfl, by decide +kernel, rfl, by decide +kernel, by decide +kernel⟩
theorem k_Item_init (T : Tx K mg) : KnI P w K mg base "Item" 1 ["self", "number", "box"] (spItemI K) := by
  have F := T.fn2 14 (c := "Item") (m := "__init__") (q := "Item.__init__") (st := s_Item_init) rfl
  have sc := sc_Item_init
  let st : Stmt := s_Item_init
  let nn : List Str := ["self", "number", "box"]
  refine ⟨F.ok sc (fun vs H Q E h => ?_) (fun cdv A outer s H vs Q E hr h => ?_), F.binds fun _ _ _ _ _ _ us hl => match us, hl with | [_, _, _], _ => rfl, kcl_Item T⟩

  · obtain ⟨p, q, dx, n, rfl, _⟩ := h
    rfl
  obtain ⟨p, q, dx, n, rfl, hp, k⟩ := h
  refine ⟨_, (pss_cons (ps_fld (pv 0) (pv 1) rfl)
      (pss_one (ps_fld (pv 0) (pv 2) rfl))), ?_⟩
  refine ⟨_, rfl, _, rfl, p, _, dx, [], rfl, hp, (kcl_Item T).cl, no_Item_number T, by decide, ?_⟩
  refine ⟨_, rfl, _, rfl, p, _, dx, _, rfl, upd_same, (kcl_Item T).cl, no_Item_box T, by show 1 < 1000; decide, ?_⟩
  show Q .non (upd _ p (.ins _ dx (putF "box" (.ref q) [("number", .int n)])))
  rw [put_past (by decide +kernel), upd_upd]
  exact k
/-- a new item -/
theorem make_item {H1 : Hp} {q : Addr} {n : Int} {Qx : Addr → Hp → Prop} {E : XK} (k : ∀ x H', H1 x = none → Same H1 H' → (∃ dx, H' x = some (.ins (He.ga K "Item") dx (itF n q))) → Qx x H') :
    ∀ x dx, H1 x = none → H1 dx = none → dx ≠ x → spItemI K [.ref x, .int n, .ref q] (upd (upd H1 dx (.own x)) x (.ins (He.ga K "Item") dx [])) (fun v H2 => v = .non ∧ Qx x H2) E := by
  intro x dx hx hdx hne
  refine ⟨x, q, dx, n, rfl, upd_same, rfl, k x _ hx ?_ ⟨dx, upd_same⟩⟩
  rw [upd_upd]
  exact fun b o e => by rw [upd_ne (ne_of_none e hx), upd_ne (ne_of_none e hdx)]; exact e
def spBoxOf (K : PySem.W.Frag) : Sp := fun vs H Q _ => ∃ (e : Addr) (xs : List V) (bs : List Box), vs = [.ref e] ∧ H e = some (.lst xs) ∧ Paired (Ent K H) xs bs ∧ xs.length ≤ 100 ∧ ∀ bv H', Same H H' → BoxV H' bv bs → Q bv H'
theorem ok_is {bs : List Box} : ∀ {xs : List V} {H : Hp}, Paired (RefBox H) xs bs → ∀ b ∈ bs, BoxOk b := fun {xs H} h b hb => by
  obtain ⟨i, hi⟩ := List.getElem?_of_mem hb
  obtain ⟨x, _, r, _, hr⟩ := h.get2 hi
  exact hr.2
theorem sc_box_of : FnScope ["entries", "entry"] ["entries"] (defScope s_box_of) := ⟨rfl, rfl, rfl, by decide +kernel, rfl, by decide +kernel, by decide +kernel⟩
theorem k_box_of (T : Tx K mg) : Kn P w K mg base "box_of" 3 ["entries"] (spBoxOf K) := by
  have F := T.fn1 16 (x := "box_of") (st := s_box_of) rfl
  have sc := sc_box_of
  let st : Stmt := s_box_of
  let nn : List Str := ["entries", "entry"]
  refine ⟨F.ok sc (fun vs H Q E h => ?_) (fun cdv A outer s H vs Q E hr h => ?_), F.binds fun _ _ _ _ _ _ us hl => match us, hl with | [_], _ => rfl, F.kp, T.glo 13⟩

  · obtain ⟨e, xs, bs, rfl, _⟩ := h
    rfl
  obtain ⟨e, xs, bs, rfl, he, hp, hl, k⟩ := h
  refine ⟨_, (pss_one (ps_ret (pe_ifExp (pt_cmpR (op_neNil hr.units0) (pv 0) (pe_lst pa_nil) (nomark _)) (kc (k_joined_all T) hr (pa_cons (pe_lc (own := [("entry", 1)]) (g := gName 1) (tt := tYes) rfl sc.nd (pi_list (pv 0)) (blkOk_by (N := nn) (sc := defScope st) (by decide +kernel)) (fun _ _ _ _ _ => (pg_name (i := 1) sc.nd rfl (Or.inl rfl))) (fun _ _ _ _ _ => pts_nil) (fun _ _ _ _ _ => (pe_fldK (K := K) rfl (pv 1) rfl))) pa_nil)) pe_non))), ?_⟩
  refine ⟨_, rfl, by show 0 ≤ sizeLine; exact Nat.zero_le _, fun p hp0 => ?_⟩
  refine ⟨e, p, xs, rfl, rfl, .inl (.inl (upd_at he hp0)), upd_same, _, rfl, ?_⟩
  cases hp with
  | nil => exact iteF (k _ _ (Same.upd hp0) (.inl ⟨rfl, rfl⟩))
  | cons h1 h2 =>
    rename_i x0 b0 xr br
    have hp : Paired (Ent K H) (x0 :: xr) (b0 :: br) := .cons h1 h2
    have S0 : Same H (upd H p (.lst [])) := Same.upd hp0
    refine iteT ?_
    refine ⟨_, rfl, e, rfl, ⟨_, .inl (.inl (S0 _ _ he))⟩, ?_⟩
    refine lc_li (R0 := Ent K H) (b0 :: br) (fun _ => true) RefBox hp ?_ ?_ ?_ ?_ ?_ ?_ ?_
    · exact fun H2 S => .inl (.inl (S _ _ (S0 _ _ he)))
    · exact Nat.lt_of_le_of_lt hl (by decide)
    · exact fun _ _ _ _ S => S.refBox
    · exact fun _ => rfl
    · exact fun x z H1 _ _ _ k hk => hk H1 (Same.refl H1)
    · intro x z H1 D acc hx _ _ S1 S1' hD k hk
      have hx0 : Ent K (off H1 D) x z := (S0.trans S1').ent hx
      obtain ⟨a, C, dx, fs, q, rfl, h1, h2, h3⟩ := hx0
      refine fld_box T (b := z) (v := .ref a) (off_same.ent ⟨a, C, dx, fs, q, rfl, h1, h2, h3⟩) (fun k q => ⟨_, rfl, q⟩) fun r hr0 => hk _ _ (Same.refl H1) ⟨r, rfl, ?_⟩
      exact ⟨off_ne hr0.1 hD (fun z => nomatch z), hr0.2⟩
    · intro D H' ys hD S hl2 hys
      rw [show (b0 :: br).filter (fun _ => true) = b0 :: br from List.filter_eq_self.mpr fun _ _ => rfl] at hys
      refine ⟨D, ys, b0 :: br, rfl, hl2, Paired.impl (fun _ _ => off_same.refBox) hys, by simp, fun q H2 hq S2 hb => k _ _ ((S0.trans S).trans S2) (.inr ⟨by simp, q, rfl, hb⟩)⟩
def spNodeI (K : PySem.W.Frag) : Sp := fun vs H Q _ => ∃ (p e dx : Addr) (l : Int) (xs : List V) (bs : List Box), vs = [.ref p, .int l, .ref e] ∧ H p = some (.ins (He.ga K "Node") dx []) ∧ off H p e = some (.lst xs) ∧ Paired (Ent K (off H p)) xs bs ∧ xs.length ≤ 100 ∧
  ∀ H' bv, Same (off H p) H' → H' p = some (.ins (He.ga K "Node") dx (ndF l e bv)) → BoxV H' bv bs → Q .non H'
theorem sc_Node_init : FnScope ["self", "level", "entries"] ["self", "level", "entries"] (defScope s_Node_init) := ⟨rfl, rfl, rfl, by decide +kernel, rfl, by decide +kernel, by decide +kernel⟩
theorem k_Node_init (T : Tx K mg) : KnI P w K mg base "Node" 4 ["self", "level", "entries"] (spNodeI K) := by
  have F := T.fn2 15 (c := "Node") (m := "__init__") (q := "Node.__init__") (st := s_Node_init) rfl
  have sc := sc_Node_init
  let st : Stmt := s_Node_init
  let nn : List Str := ["self", "level", "entries"]
  refine ⟨F.ok sc (fun vs H Q E h => ?_) (fun cdv A outer s H vs Q E hr h => ?_), F.binds fun _ _ _ _ _ _ us hl => match us, hl with | [_, _, _], _ => rfl, kcl_Node T⟩

  · obtain ⟨p, e, dx, l, xs, bs, rfl, _⟩ := h
    rfl
  obtain ⟨p, e, dx, l, xs, bs, rfl, hp, he, hx, hl, k⟩ := h
  refine ⟨_, (pss_cons (ps_fld (pv 0) (pv 1) rfl)
      (pss_cons (ps_fld (pv 0) (pv 2) rfl)
      (pss_one (ps_fld (pv 0) (kc (k_box_of T) hr (pa_cons (pv 2) pa_nil)) rfl)))), ?_⟩
  refine ⟨_, rfl, _, rfl, p, _, dx, [], rfl, hp, (kcl_Node T).cl, no_Node_level T, by decide, ?_⟩
  refine ⟨_, rfl, _, rfl, p, _, dx, _, rfl, upd_same, (kcl_Node T).cl, no_Node_entries T, by show 1 < 1000; decide, ?_⟩
  have hpe : off H p p = none := if_pos rfl
  have Sf : ∀ {H1 : Hp} {o : HO}, Same (off H p) H1 → Same (off H p) (upd H1 p o) := fun S => S.upd2 hpe
  have S2 : Same (off H p) (upd (upd H p (.ins (He.ga K "Node") dx (putF (Str.ofString "level") (.int l) []))) p (.ins (He.ga K "Node") dx (putF (Str.ofString "entries") (.ref e) (putF (Str.ofString "level") (.int l) [])))) := Sf (Sf off_same)
  refine ⟨_, rfl, e, xs, bs, rfl, S2 _ _ he, Paired.impl (fun _ _ => S2.ent) hx, hl, fun bv H3 S3 hb => ?_⟩
  refine ⟨_, rfl, p, _, dx, _, rfl, S3 _ _ upd_same, (kcl_Node T).cl, no_Node_box T, by rw [show putF (Str.ofString "level") (.int l) ([] : List (Str × V)) = [(Str.ofString "level", V.int l)] from rfl, put_past (by decide +kernel)]; show 2 < 1000; decide, ?_⟩
  refine k _ bv (Sf (S2.trans S3)) ?_ ?_
  · rw [upd_same, show putF (Str.ofString "level") (.int l) ([] : List (Str × V)) = [(Str.ofString "level", V.int l)] from rfl, put_past (by decide +kernel), show putF (Str.ofString "entries") (.ref e) ([] : List (Str × V)) = [(Str.ofString "entries", V.ref e)] from rfl, put_past (by decide +kernel), put_past (by decide +kernel)]
    rfl
  · rcases hb with hb | ⟨h1, q, rfl, h2, h3⟩
    · exact .inl hb
    · refine .inr ⟨h1, q, rfl, ?_, h3⟩
      show upd H3 p _ q = _
      rw [upd_ne (ne_of h2 (S3 _ _ upd_same) (fun z => nomatch z))]
      exact h2
/-- a new node -/
theorem make_node {H1 G : Hp} {e : Addr} {l : Int} {xs : List V} {bs : List Box} {Qx : Addr → Hp → Prop} {E : XK} (S : Same G H1) (he : G e = some (.lst xs)) (hx : Paired (Ent K G) xs bs) (hl : xs.length ≤ 100)
    (k : ∀ x dx bv H', H1 x = none → Same H1 H' → H' x = some (.ins (He.ga K "Node") dx (ndF l e bv)) → BoxV H' bv bs → Qx x H') :
    ∀ x dx, H1 x = none → H1 dx = none → dx ≠ x → spNodeI K [.ref x, .int l, .ref e] (upd (upd H1 dx (.own x)) x (.ins (He.ga K "Node") dx [])) (fun v H2 => v = .non ∧ Qx x H2) E := by
  intro x dx hx0 hdx hne
  have S1 : Same H1 (off (upd (upd H1 dx (.own x)) x (.ins (He.ga K "Node") dx [])) x) := by
    rw [off_upd]
    exact (Same.upd hdx).off0 hx0
  exact ⟨x, e, dx, l, xs, bs, rfl, upd_same, S1 _ _ (S _ _ he), Paired.impl (fun _ _ => (S.trans S1).ent) hx, hl, fun H' bv S2 h1 h2 => ⟨rfl, k x dx bv H' hx0 (S1.trans S2) h1 h2⟩⟩
/-- .. in a new list's making -/
theorem node_off {H' : Hp} {D x dx e : Addr} {l : Int} {bv : V} {xs : List V} {bs : List Box} {G : Hp} {o : List V} (S : Same G (off H' D)) (he : G e = some (.lst xs)) (hx : Paired (Ent K G) xs bs) (h1 : H' x = some (.ins (He.ga K "Node") dx (ndF l e bv))) (h2 : BoxV H' bv bs) (hD : H' D = some (.lst o)) :
    NodeV K (off H' D) l xs bs (.ref x) := by
  refine ⟨x, dx, e, bv, rfl, off_ne h1 hD (fun z => nomatch z), S _ _ he, Paired.impl (fun _ _ => S.ent) hx, ?_⟩
  rcases h2 with h2 | ⟨h3, q, rfl, h4, h5⟩
  · exact .inl h2
  · exact .inr ⟨h3, q, rfl, off_ne h4 hD (fun z => nomatch z), h5⟩
theorem node_new {H' : Hp} {x dx e : Addr} {l : Int} {bv : V} {xs : List V} {bs : List Box} {G : Hp} (S : Same G H') (he : G e = some (.lst xs)) (hx : Paired (Ent K G) xs bs) (h1 : H' x = some (.ins (He.ga K "Node") dx (ndF l e bv))) (h2 : BoxV H' bv bs) :
    NodeV K H' l xs bs (.ref x) := ⟨x, dx, e, bv, rfl, h1, S _ _ he, Paired.impl (fun _ _ => S.ent) hx, h2⟩
def spEmpty (K : PySem.W.Frag) : Sp := fun vs H Q _ => vs = [] ∧ ∀ p H', H p = none → Same H H' → TreeV K H' 0 (.ref p) (.leaf []) → Q (.ref p) H'
theorem sc_empty_leaf : FnScope [] [] (defScope s_empty_leaf) := ⟨rfl, rfl, rfl, by decide +kernel, rfl, by decide +kernel, by decide +kernel⟩
theorem k_empty_leaf (T : Tx K mg) : Kn P w K mg base "empty_leaf" 6 [] (spEmpty K) := by
  have F := T.fn1 17 (x := "empty_leaf") (st := s_empty_leaf) rfl
  have sc := sc_empty_leaf
  let st : Stmt := s_empty_leaf
  let nn : List Str := []
  refine ⟨F.ok sc (fun vs H Q E h => ?_) (fun cdv A outer s H vs Q E hr h => ?_), F.binds fun _ _ _ _ _ _ us hl => match us, hl with | [], _ => rfl, F.kp, T.glo 14⟩

  · obtain ⟨rfl, _⟩ := h
    rfl
  obtain ⟨rfl, k⟩ := h
  refine ⟨_, (pss_one (ps_ret (km (k_Node_init T) hr (pa_cons pe_int (pa_cons (pe_lst pa_nil) pa_nil))))), ?_⟩
  refine ⟨Nat.zero_le _, fun e he => ?_⟩
  have S0 : Same H (upd H e (.lst [])) := Same.upd he
  refine make_node (bs := []) (Same.refl _) upd_same .nil (by decide) fun x dx bv H' hx S h1 h2 => k x H' (S0.free hx) (S0.trans S) ?_
  exact ⟨Nat.zero_le _, [], node_new S upd_same .nil h1 h2, .nil⟩
def spNum (K : PySem.W.Frag) : Sp := fun vs H Q _ => ∃ (v : V) (it : Item), vs = [v] ∧ ItemAt K H v it ∧ Q (.int it.id) H
theorem sc_number_of : FnScope ["item"] ["item"] (defScope s_number_of) := ⟨rfl, rfl, rfl, by decide +kernel, rfl, by decide +kernel, by decide +kernel⟩
theorem k_number_of (T : Tx K mg) : Kn P w K mg base "number_of" 1 ["item"] (spNum K) := by
  have F := T.fn1 18 (x := "number_of") (st := s_number_of) rfl
  have sc := sc_number_of
  let st : Stmt := s_number_of
  let nn : List Str := ["item"]
  refine ⟨F.ok sc (fun vs H Q E h => ?_) (fun cdv A outer s H vs Q E hr h => ?_), F.binds fun _ _ _ _ _ _ us hl => match us, hl with | [_], _ => rfl, F.kp, T.glo 15⟩

  · obtain ⟨v, it, rfl, _⟩ := h
    rfl
  obtain ⟨v, it, rfl, hv, k⟩ := h
  refine ⟨_, (pss_one (ps_ret (pe_fld (pv 0) rfl))), ?_⟩
  exact fld_number T hv (fun k q => ⟨_, rfl, q⟩) k
end
end BFW
namespace BFW
open PySem PySem.Spec PyProof.Rows L2 BFH
open Kvg6 (Box Item)
open BF (BoxOk ItOk)
section
variable {P : Program} {w : World} {K : PySem.W.Frag} {mg : Str → Option Value} {base : Heap}
def SubV (K : PySem.W.Frag) (H : Hp) (v : V) (q : Nat × Kvg6.Tree) : Prop := TreeV K H q.1 v q.2
def spSub (K : PySem.W.Frag) (n : Nat) : Sp := fun vs H Q _ => ∃ (m : Nat) (v : V) (t : Kvg6.Tree) (G : Hp), m < n ∧ m ≤ 5 ∧ vs = [v] ∧ Same G H ∧ TreeV K G m v t ∧
  ∀ q xs H', H q = none → Same H H' → H' q = some (.lst xs) → Paired (SubV K G) xs (BF.sub m t) → Q (.ref q) H'
theorem zero_subtree {vs : List V} {H : Hp} {Q : VK} {E : XK} (h : spSub K 0 vs H Q E) : False := by
  obtain ⟨m, v, t, G, h1, _⟩ := h
  omega
theorem sub_small {n : Nat} {t : Kvg6.Tree} (h : BF.Thin n t) (hn : n ≤ 5) : (BF.sub n t).length ≤ 4096 := by
  have h1 := BF.sub_thin n t h
  have h2 := BF.low_pow hn
  omega
theorem line_small {n : Nat} (h : n ≤ 1048576) : n ≤ sizeLine := Nat.le_trans h (by decide)
theorem flat_more {α β : Type} {f : α → List β} {l : List α} {i : Nat} {x : α} (h : l[i]? = some x) : (l.take (i + 1)).flatMap f = (l.take i).flatMap f ++ f x := by
  rw [List.take_add_one, h]
  show (List.take i l ++ [x]).flatMap f = _
  rw [List.flatMap_append, List.flatMap_cons, List.flatMap_nil, List.append_nil]
theorem sc_subtree : FnScope ["node", "found", "child"] ["node"] (defScope s_subtree) := ⟨rfl, rfl, rfl, by decide +kernel, rfl, by decide +kernel, by decide +kernel⟩
theorem n_subtree (T : Tx K mg) : ∀ n : Nat, Kn P w K mg base "subtree" (n + 1) ["node"] (spSub K n)
  | 0 => by
    have F := T.fn1 19 (x := "subtree") (st := s_subtree) rfl
    exact ⟨⟨fun _ _ _ _ h => (zero_subtree h).elim, fun _ _ _ _ _ _ _ _ _ _ _ _ _ h => (zero_subtree h).elim⟩, F.binds fun _ _ _ _ _ _ us hl => match us, hl with | [_], _ => rfl, F.kp, T.glo 16⟩
  | n + 1 => by
    have ih : Kn P w K mg base "subtree" (n + 1) ["node"] (spSub K n) := n_subtree T n
    have F := T.fn1 19 (x := "subtree") (st := s_subtree) rfl
    have sc := sc_subtree
    let st : Stmt := s_subtree
    let nn : List Str := ["node", "found", "child"]
    refine ⟨F.ok sc (fun vs H Q E h => ?_) (fun cdv A outer s H vs Q E hr h => ?_), F.binds fun _ _ _ _ _ _ us hl => match us, hl with | [_], _ => rfl, F.kp, T.glo 16⟩

    · obtain ⟨m, v, t, G, _, _, rfl, _⟩ := h
      rfl
    obtain ⟨m, v, t, G, hm, h5, rfl, SG, ht, k⟩ := h
    refine ⟨_, (pss_cons (ps_set (i := 1) sc.nd rfl (Or.inl rfl) (pe_lst (pa_cons (pv 0) pa_nil)))
      (pss_cons (ps_if (pt_cmpR op_gt (pe_fld (pv 0) rfl) pe_int (nomark _)) (pss_one (ps_for PassesOwn.never rfl (pi_list (pe_fld (pv 0) rfl)) (pg_name (i := 2) sc.nd rfl (Or.inl rfl)) (pss_one (ps_expr (pe_bm PySem.F.plainAttrs_list PySem.F.slot_list_extend PySem.F.type_list_extend mt_extend (pv 1) (pa_cons (kc ih hr (pa_cons (pv 2) pa_nil) (hjk := by omega)) pa_nil)))))) pss_nil)
      (pss_one (ps_ret (pv 1))))), ?_⟩
    obtain ⟨p, dx, e, bv, xs, rfl, ta⟩ := ht.at_
    refine ⟨_, rfl, by show 1 ≤ sizeLine; decide, fun f hf => ?_⟩
    have S0 : Same H (upd H f (.lst [.ref p])) := Same.upd hf
    have S1 : Same G (upd H f (.lst [.ref p])) := SG.trans S0
    refine ⟨_, rfl, _, _, _, _, _, rfl, S1 _ _ ta.node, (kcl_Node T).cl, no_Node_level T, ndF_level, _, _, rfl, rfl, _, rfl, ?_⟩
    have hk := ta.kids
    cases t with
    | leaf items =>
      obtain ⟨rfl, hk⟩ := hk
      rw [decide_eq_false (by omega)]
      exact iteF ⟨_, rfl, k f _ _ hf S0 upd_same (.one ht)⟩
    | node ch =>
      obtain ⟨m, rfl, hk⟩ := hk
      rw [decide_eq_true (by omega)]
      refine iteT ?_
      refine ⟨_, rfl, _, _, _, _, _, rfl, S1 _ _ ta.node, (kcl_Node T).cl, no_Node_entries T, ndF_entries, e, rfl, ⟨_, .inl (.inl (S1 _ _ ta.list))⟩, ?_⟩
      have hl := ta.four
      have hsm : ∀ c ∈ ch, (BF.sub m c).length ≤ 4096 := fun c hc => sub_small (ht.thin.2 c hc) (by omega)
      refine for_list (xs := xs) (fun i σ H1 => ∃ zs o, σ = [some (.ref p), some (.ref f), o] ∧ Same H H1 ∧ H1 f = some (.lst (.ref p :: zs)) ∧ Paired (SubV K G) zs ((ch.take i).flatMap (BF.sub m))) ?_ ?_ ?_ ?_
      · exact ⟨[], _, rfl, S0, upd_same, by rw [List.take_zero]; exact .nil⟩
      · rintro i σ H1 _ ⟨zs, o, _, S, _⟩
        exact .inl (.inl (S _ _ (SG _ _ ta.list)))
      · rintro i x σ H1 hx ⟨zs, o, rfl, S, hz, hp⟩
        obtain ⟨c, hc, hxc⟩ := hk.get hx
        refine ⟨_, rfl, .inl ⟨rfl, _, .inl (.inl hz)⟩, ?_⟩
        refine ⟨_, rfl, m, x, c, G, by omega, by omega, rfl, SG.trans S, hxc, fun q ys H2 hq S2 hy hpy => ?_⟩
        have e1 := hp.len
        have e2 := hpy.len
        have e3 := hsm c (List.mem_of_getElem? hc)
        have e4 := BF.flat_le (BF.sub m) 4096 (ch.take i) fun c hc => hsm c (List.mem_of_mem_take hc)
        have e5 : (ch.take i).length * 4096 ≤ 4 * 4096 := Nat.mul_le_mul_right _ (by rw [List.length_take]; have := ht.thin.1; omega)
        refine ⟨f, q, _, ys, rfl, rfl, S2 _ _ hz, hy, line_small (by rw [List.length_cons]; omega), ?_⟩
        refine ⟨zs ++ ys, some x, rfl, (S.trans S2).upd2 hf, by rw [upd_same]; rfl, ?_⟩
        rw [flat_more hc]
        exact hp.app hpy
      · rintro σ H1 ⟨zs, o, rfl, S, hz, hp⟩
        rw [hk.len, List.take_length] at hp
        exact ⟨_, rfl, k f _ H1 hf S hz (.cons ht hp)⟩
theorem k_subtree (T : Tx K mg) : Kn P w K mg base "subtree" 7 ["node"] (spSub K 6) := n_subtree T 6
/-- an item list is made of what stands in G -/
def spBelow (K : PySem.W.Frag) : Sp := fun vs H Q _ => ∃ (m : Nat) (v : V) (t : Kvg6.Tree) (G : Hp), m ≤ 5 ∧ vs = [v] ∧ Same G H ∧ TreeV K G m v t ∧
  ∀ q xs H', H q = none → Same H H' → H' q = some (.lst xs) → Paired (ItemAt K G) xs (Kvg6.itemsOfTree m t) → Q (.ref q) H'
theorem leaves_more {l : List (Nat × Kvg6.Tree)} {i : Nat} {q : Nat × Kvg6.Tree} (h : l[i]? = some q) : BF.leavesOf (l.take (i + 1)) = BF.leavesOf (l.take i) ++ (match q.2 with
    | .leaf items => items
    | .node _ => []) := flat_more h
theorem leaves_len (l : List (Nat × Kvg6.Tree)) (i : Nat) : (BF.leavesOf (l.take i)).length ≤ (BF.leavesOf l).length := by
  have e : BF.leavesOf l = BF.leavesOf (l.take i) ++ BF.leavesOf (l.drop i) := by
    unfold BF.leavesOf
    rw [← List.flatMap_append, List.take_append_drop]
  rw [e, List.length_append]
  omega
theorem sc_items_below : FnScope ["node", "found", "one"] ["node"] (defScope s_items_below) := ⟨rfl, rfl, rfl, by decide +kernel, rfl, by decide +kernel, by decide +kernel⟩
theorem k_items_below (T : Tx K mg) : Kn P w K mg base "items_below" 8 ["node"] (spBelow K) := by
  have F := T.fn1 20 (x := "items_below") (st := s_items_below) rfl
  have sc := sc_items_below
  let st : Stmt := s_items_below
  let nn : List Str := ["node", "found", "one"]
  refine ⟨F.ok sc (fun vs H Q E h => ?_) (fun cdv A outer s H vs Q E hr h => ?_), F.binds fun _ _ _ _ _ _ us hl => match us, hl with | [_], _ => rfl, F.kp, T.glo 17⟩

  · obtain ⟨m, v, t, G, _, rfl, _⟩ := h
    rfl
  obtain ⟨m, v, t, G, h5, rfl, SG, ht, k⟩ := h
  refine ⟨_, (pss_cons (ps_set (i := 1) sc.nd rfl (Or.inl rfl) (pe_lst pa_nil))
      (pss_cons (ps_for PassesOwn.never rfl (pi_list (kc (k_subtree T) hr (pa_cons (pv 0) pa_nil))) (pg_name (i := 2) sc.nd rfl (Or.inl rfl)) (pss_one (ps_if (pt_cmpR op_eq (pe_fld (pv 2) rfl) pe_int (nomark _)) (pss_one (ps_expr (pe_bm PySem.F.plainAttrs_list PySem.F.slot_list_extend PySem.F.type_list_extend mt_extend (pv 1) (pa_cons (pe_fld (pv 2) rfl) pa_nil)))) pss_nil)))
      (pss_one (ps_ret (pv 1))))), ?_⟩
  have hlen : (Kvg6.itemsOfTree m t).length ≤ 4096 := Nat.le_trans (BF.items_thin m t ht.thin) (BF.low_pow h5)
  have hsub := BF.sub_items m t ht.thin.bal
  refine ⟨Nat.zero_le _, fun f hf => ?_⟩
  have S0 : Same H (upd H f (.lst [])) := Same.upd hf
  refine ⟨_, rfl, m, v, t, G, by omega, h5, rfl, SG.trans S0, ht, fun q xs H1 hq S1 hx hp => ?_⟩
  refine ⟨q, rfl, ⟨_, .inl (.inl hx)⟩, ?_⟩
  refine for_list (xs := xs) (fun i σ H2 => ∃ zs o, σ = [some v, some (.ref f), o] ∧ Same H H2 ∧ H2 q = some (.lst xs) ∧ H2 f = some (.lst zs) ∧ Paired (ItemAt K G) zs (BF.leavesOf ((BF.sub m t).take i))) ?_ ?_ ?_ ?_
  · exact ⟨[], _, rfl, S0.trans S1, hx, S1 _ _ upd_same, by rw [List.take_zero]; exact .nil⟩
  · rintro i σ H2 _ ⟨zs, o, _, _, h, _⟩
    exact .inl (.inl h)
  · rintro i x σ H2 hxi ⟨zs, o, rfl, S, hq2, hz, hpz⟩
    obtain ⟨⟨j, t'⟩, hj, hxc⟩ := hp.get hxi
    obtain ⟨p, dx, e, bv, ys, rfl, ta⟩ := TreeV.at_ hxc
    have hne : q ≠ f := fun e => by
      subst e
      rw [upd_same] at hq
      cases hq
    have SG2 := SG.trans S
    refine ⟨_, rfl, _, _, _, _, _, rfl, SG2 _ _ ta.node, (kcl_Node T).cl, no_Node_level T, ndF_level, rfl, _, rfl, ?_⟩
    have hk := ta.kids
    have hm := leaves_more hj
    have ln := leaves_len (BF.sub m t) (i + 1)
    rw [hsub] at ln
    cases t' with
    | leaf items =>
      obtain ⟨rfl, hk⟩ := hk
      rw [decide_eq_true (by rfl)]
      refine iteT ⟨_, rfl, .inl ⟨rfl, _, .inl (.inl hz)⟩, _, rfl, _, _, _, _, _, rfl, SG2 _ _ ta.node, (kcl_Node T).cl, no_Node_entries T, ndF_entries, f, e, zs, ys, rfl, rfl, hz, SG2 _ _ ta.list, ?_, ?_⟩
      · have e1 := (hpz.app hk).len
        rw [List.length_append] at e1
        have e2 : (BF.leavesOf ((BF.sub m t).take i) ++ items).length ≤ 4096 := by
          rw [← hm]
          omega
        exact line_small (by omega)
      · refine ⟨zs ++ ys, _, rfl, S.upd2 hf, by rw [upd_ne hne]; exact hq2, upd_same, ?_⟩
        rw [hm]
        exact hpz.app hk
    | node ch =>
      obtain ⟨m', rfl, hk⟩ := hk
      rw [decide_eq_false (fun z => by injection z with z; omega)]
      refine iteF ⟨zs, _, rfl, S, hq2, hz, ?_⟩
      rw [hm]
      simpa using hpz
  · rintro σ H2 ⟨zs, o, rfl, S, hq2, hz, hpz⟩
    rw [hp.len, List.take_length, hsub] at hpz
    exact ⟨_, rfl, k f _ H2 hf S hz hpz⟩
/-- what stands for an item or for none -/
def FoundV (K : PySem.W.Frag) (G : Hp) (r : V) : Option Item → Prop
  | none => r = .non
  | some it => ItemAt K G r it
def spWith (K : PySem.W.Frag) : Sp := fun vs H Q _ => ∃ (m id : Nat) (v : V) (t : Kvg6.Tree) (G : Hp), m ≤ 5 ∧ vs = [v, .int id] ∧ Same G H ∧ TreeV K G m v t ∧
  ∀ r H', Same H H' → FoundV K G r ((Kvg6.itemsOfTree m t).find? fun it => it.id == id) → Q r H'
theorem find_at {l : List Item} {p : Item → Bool} {i : Nat} {x : Item} (h : l[i]? = some x) (hp : p x = true) (hb : (l.take i).all (fun y => !p y) = true) : l.find? p = some x := by
  have e : l = l.take i ++ x :: l.drop (i + 1) := by
    obtain ⟨hi, e⟩ := List.getElem?_eq_some_iff.mp h
    rw [← e, ← List.drop_eq_getElem_cons hi, List.take_append_drop]
  rw [e, List.find?_append, List.find?_eq_none.mpr (fun y hy => by have := List.all_eq_true.mp hb y hy; simpa using this)]
  simp [hp]
theorem sc_item_with : FnScope ["node", "number", "item"] ["node", "number"] (defScope s_item_with) := ⟨rfl, rfl, rfl, by decide +kernel, rfl, by decide +kernel, by decide +kernel⟩
theorem k_item_with (T : Tx K mg) : Kn P w K mg base "item_with" 9 ["node", "number"] (spWith K) := by
  have F := T.fn1 21 (x := "item_with") (st := s_item_with) rfl
  have sc := sc_item_with
  let st : Stmt := s_item_with
  let nn : List Str := ["node", "number", "item"]
  refine ⟨F.ok sc (fun vs H Q E h => ?_) (fun cdv A outer s H vs Q E hr h => ?_), F.binds fun _ _ _ _ _ _ us hl => match us, hl with | [_, _], _ => rfl, F.kp, T.glo 18⟩

  · obtain ⟨m, id, v, t, G, _, rfl, _⟩ := h
    rfl
  obtain ⟨m, id, v, t, G, h5, rfl, SG, ht, k⟩ := h
  refine ⟨_, (pss_cons (ps_for PassesOwn.never rfl (pi_list (kc (k_items_below T) hr (pa_cons (pv 0) pa_nil))) (pg_name (i := 2) sc.nd rfl (Or.inl rfl)) (pss_one (ps_if (pt_cmpR op_eq (pe_fld (pv 2) rfl) (pv 1) (nomark _)) (pss_one (ps_ret (pv 2))) pss_nil)))
      (pss_one (ps_ret pe_non))), ?_⟩
  refine ⟨_, rfl, m, v, t, G, h5, rfl, SG, ht, fun q xs H1 hq S1 hx hp => ?_⟩
  refine ⟨q, rfl, ⟨_, .inl (.inl hx)⟩, ?_⟩
  refine for_list (xs := xs) (fun i σ H2 => ∃ o, σ = [some v, some (.int id), o] ∧ H2 = H1 ∧ ((Kvg6.itemsOfTree m t).take i).all (fun y => !(y.id == id)) = true) ?_ ?_ ?_ ?_
  · exact ⟨_, rfl, rfl, by rw [List.take_zero]; rfl⟩
  · rintro i σ H2 _ ⟨o, _, rfl, _⟩
    exact .inl (.inl hx)
  · rintro i x σ H2 hxi ⟨o, rfl, rfl, hb⟩
    obtain ⟨it, hit, hxc⟩ := hp.get hxi
    have hxc' := hxc
    obtain ⟨a, dx, q', rfl, h1, h2⟩ := hxc'
    refine ⟨_, rfl, _, _, _, _, _, rfl, (SG.trans S1) _ _ h1, (kcl_Item T).cl, no_Item_number T, itF_number, _, rfl, rfl, _, rfl, ?_⟩
    by_cases c : it.id = id
    · rw [decide_eq_true (by rw [c])]
      exact iteT ⟨_, rfl, k _ _ S1 (by rw [find_at hit (by simp [c]) hb]; exact hxc)⟩
    · rw [decide_eq_false (fun z => by injection z with z; omega)]
      refine iteF ⟨_, rfl, rfl, ?_⟩
      rw [List.take_add_one, hit, List.all_append, hb]
      simp [c]
  · rintro σ H2 ⟨o, rfl, rfl, hb⟩
    rw [hp.len, List.take_length] at hb
    exact k _ _ S1 (by rw [List.find?_eq_none.mpr fun y hy => by have := List.all_eq_true.mp hb y hy; simpa using this]; rfl)
end
end BFW
namespace BFW
open PySem PySem.Spec PyProof.Rows L2 BFH
open Kvg6 (Box Item)
open BF (BoxOk ItOk)
section
variable {P : Program} {w : World} {K : PySem.W.Frag} {mg : Str → Option Value} {base : Heap}
theorem ent_fld (T : Tx K mg) {H : Hp} {v : V} {b : Box} (h : Ent K H v b) : ∃ a C dx fs q, v = .ref a ∧ H a = some (.ins C dx fs) ∧ Cls K C ∧ NoAttr K C "box" ∧ fs.lookup ("box" : Str) = some (.ref q) ∧ BoxAt H q b := by
  obtain ⟨a, C, dx, fs, q, rfl, h1, h2, h3⟩ := h
  rcases h2 with ⟨rfl, n, rfl⟩ | ⟨rfl, l, e, rfl⟩
  · exact ⟨a, _, dx, _, q, rfl, h1, (kcl_Item T).cl, no_Item_box T, itF_box, h3⟩
  · exact ⟨a, _, dx, _, q, rfl, h1, (kcl_Node T).cl, no_Node_box T, ndF_box, h3⟩
def spWaste (K : PySem.W.Frag) : Sp := fun vs H Q _ => ∃ (u v : V) (a b : Box), vs = [u, v] ∧ Ent K H u a ∧ Ent K H v b ∧ ∀ H', Same H H' → Q (.int (BF.wst a b)) H'
theorem sc_waste : FnScope ["one", "other"] ["one", "other"] (defScope s_waste) := ⟨rfl, rfl, rfl, by decide +kernel, rfl, by decide +kernel, by decide +kernel⟩
theorem k_waste (T : Tx K mg) : Kn P w K mg base "waste" 2 ["one", "other"] (spWaste K) := by
  have F := T.fn1 22 (x := "waste") (st := s_waste) rfl
  have sc := sc_waste
  let st : Stmt := s_waste
  let nn : List Str := ["one", "other"]
  refine ⟨F.ok sc (fun vs H Q E h => ?_) (fun cdv A outer s H vs Q E hr h => ?_), F.binds fun _ _ _ _ _ _ us hl => match us, hl with | [_, _], _ => rfl, F.kp, T.glo 19⟩

  · obtain ⟨u, v, a, b, rfl, _⟩ := h
    rfl
  obtain ⟨u, v, a, b, rfl, h1, h2, k⟩ := h
  refine ⟨_, (pss_one (ps_ret (pe_op op_sub (pe_op op_sub (kc (k_area T) hr (pa_cons (kc (k_joined T) hr (pa_cons (pe_fld (pv 0) rfl) (pa_cons (pe_fld (pv 1) rfl) pa_nil))) pa_nil)) (kc (k_area T) hr (pa_cons (pe_fld (pv 0) rfl) pa_nil))) (kc (k_area T) hr (pa_cons (pe_fld (pv 1) rfl) pa_nil))))), ?_⟩
  obtain ⟨a1, C1, d1, f1, q1, rfl, h1, c1, n1, l1, b1⟩ := ent_fld T h1
  obtain ⟨a2, C2, d2, f2, q2, rfl, h2, c2, n2, l2, b2⟩ := ent_fld T h2
  refine ⟨_, rfl, _, _, _, _, _, rfl, h1, c1, n1, l1, _, rfl, _, _, _, _, _, rfl, h2, c2, n2, l2, q1, q2, a, b, rfl, b1, b2, fun p H1 hp S hb => ?_⟩
  exact ⟨p, _, rfl, hb, _, rfl, _, _, _, _, _, rfl, S _ _ h1, c1, n1, l1, q1, a, rfl, S.box b1, _, _, rfl, rfl, _, rfl, _, _, _, _, _, rfl, S _ _ h2, c2, n2, l2, q2, b, rfl, S.box b2, _, _, rfl, rfl, k H1 S⟩
theorem bx_at {bs : List Box} {i : Nat} (h : i < bs.length) : bs[i]? = some (BF.bx bs i) := by
  rw [List.getElem?_eq_getElem h]
  unfold BF.bx
  rw [List.getD_eq_getElem?_getD, List.getElem?_eq_getElem h]
  rfl
theorem ent_at {H : Hp} {xs : List V} {bs : List Box} (h : Paired (Ent K H) xs bs) {i : Nat} (hi : i < bs.length) : ∃ v, xs[i]? = some v ∧ Ent K H v (BF.bx bs i) := h.get2 (bx_at hi)
def spSeeds (K : PySem.W.Frag) : Sp := fun vs H Q _ => ∃ (e : Addr) (xs : List V) (bs : List Box), vs = [.ref e] ∧ H e = some (.lst xs) ∧ Paired (Ent K H) xs bs ∧ bs.length = 5 ∧
  ∀ q H', H q = none → Same H H' → H' q = some (.tup [.int ((Kvg6.seeds bs).1 : Nat), .int ((Kvg6.seeds bs).2 : Nat)]) → Q (.ref q) H'
theorem sc_seeds : FnScope ["entries", "best", "first", "second"] ["entries"] (defScope s_seeds) := ⟨rfl, rfl, rfl, by decide +kernel, rfl, by decide +kernel, by decide +kernel⟩
theorem k_seeds (T : Tx K mg) : Kn P w K mg base "seeds" 3 ["entries"] (spSeeds K) := by
  have F := T.fn1 23 (x := "seeds") (st := s_seeds) rfl
  have sc := sc_seeds
  let st : Stmt := s_seeds
  let nn : List Str := ["entries", "best", "first", "second"]
  refine ⟨F.ok sc (fun vs H Q E h => ?_) (fun cdv A outer s H vs Q E hr h => ?_), F.binds fun _ _ _ _ _ _ us hl => match us, hl with | [_], _ => rfl, F.kp, T.glo 20⟩

  · obtain ⟨e, xs, bs, rfl, _⟩ := h
    rfl
  obtain ⟨e, xs, bs, rfl, he, hp, h5, k⟩ := h
  refine ⟨_, (pss_cons (ps_set (i := 1) sc.nd rfl (Or.inl rfl) (pe_tup (pa_cons pe_int (pa_cons pe_int pa_nil))))
      (pss_cons (ps_for PassesOwn.never rfl (pi_range1 rfl (T.free 95) (pa_cons (pe_callB call_len_seq (by rfl) (T.free 91) PySem.boot_len (pa_cons (pv 0) pa_nil)) pa_nil)) (pg_name (i := 2) sc.nd rfl (Or.inl rfl)) (pss_one (ps_for PassesOwn.never rfl (pi_range2 rfl (T.free 95) (pa_cons (pe_op op_add (pv 2) pe_int) (pa_cons (pe_callB call_len_seq (by rfl) (T.free 91) PySem.boot_len (pa_cons (pv 0) pa_nil)) pa_nil))) (pg_name (i := 3) sc.nd rfl (Or.inl rfl)) (pss_one (ps_if (pt_cmpR op_gt (kc (k_waste T) hr (pa_cons (pe_ix ix_list (pv 0) (pv 2) (fun _ _ => rfl)) (pa_cons (pe_ix ix_list (pv 0) (pv 3) (fun _ _ => rfl)) pa_nil))) (kc (k_waste T) hr (pa_cons (pe_ix ix_list (pv 0) (pe_ix ix_tup (pv 1) pe_int (fun _ _ => rfl)) (fun _ _ => rfl)) (pa_cons (pe_ix ix_list (pv 0) (pe_ix ix_tup (pv 1) pe_int (fun _ _ => rfl)) (fun _ _ => rfl)) pa_nil))) (nomark _)) (pss_one (ps_set (i := 1) sc.nd rfl (Or.inl rfl) (pe_tup (pa_cons (pv 2) (pa_cons (pv 3) pa_nil))))) pss_nil)))))
      (pss_one (ps_ret (pv 1))))), ?_⟩
  have hx5 : xs.length = 5 := hp.len.trans h5
  refine ⟨by show 2 ≤ sizeLine; decide, fun b0 hb0 => ?_⟩
  have S0 : Same H (upd H b0 (.tup [.int 0, .int 1])) := Same.upd hb0
  refine ⟨_, rfl, e, xs, rfl, .inl (.inl (.inl (S0 _ _ he))), ?_⟩
  refine ⟨xs.length, rfl, by omega, by omega, ?_⟩
  refine for_range (fun i σ H1 => ∃ p : Nat × Nat, ∃ q o o2, σ = [some (.ref e), some (.ref q), o, o2] ∧ Same H H1 ∧ H q = none ∧ H1 q = some (.tup [.int (p.1 : Nat), .int (p.2 : Nat)]) ∧ p = BF.bestP bs (BF.rowsP 5 i) ∧ p.1 < 5 ∧ p.2 < 5) ?_ ?_ ?_
  · exact ⟨(0, 1), b0, _, _, rfl, S0, hb0, upd_same, rfl, by decide, by decide⟩
  · rintro i σ H1 hi ⟨p, q, o, o2, rfl, S, hq0, hq, hpb, p1, p2⟩
    refine ⟨_, rfl, _, _, rfl, rfl, _, rfl, e, xs, rfl, .inl (.inl (.inl (S _ _ he))), ?_⟩
    have hi5 : i < 5 := by omega
    refine ⟨0 + (i : Int) + 1, xs.length, rfl, ⟨by omega, by omega, by omega, by omega⟩, ?_⟩
    refine for_range (fun j σ H2 => ∃ p : Nat × Nat, ∃ q o2, σ = [some (.ref e), some (.ref q), some (.int (0 + (i : Int))), o2] ∧ Same H H2 ∧ H q = none ∧ H2 q = some (.tup [.int (p.1 : Nat), .int (p.2 : Nat)]) ∧ p = BF.bestP bs (BF.rowsP 5 i ++ BF.rowP 5 i j) ∧ p.1 < 5 ∧ p.2 < 5) ?_ ?_ ?_
    · exact ⟨p, q, o2, rfl, S, hq0, hq, by rw [show BF.rowP 5 i 0 = [] from rfl, List.append_nil]; exact hpb, p1, p2⟩
    · rintro j σ H2 hj ⟨p, q, o2, rfl, S, hq0, hq, hpb, p1, p2⟩
      have hj5 : i + 1 + j < 5 := by omega
      obtain ⟨v1, e1, w1⟩ := ent_at hp (i := i) (by omega)
      obtain ⟨v2, e2, w2⟩ := ent_at hp (i := i + 1 + j) (by omega)
      obtain ⟨v3, e3, w3⟩ := ent_at hp (i := p.1) (by omega)
      obtain ⟨v4, e4, w4⟩ := ent_at hp (i := p.2) (by omega)
      have he2 := S _ _ he
      refine ⟨_, rfl, _, rfl, e, xs, _, _, rfl, rfl, .inl (.inl he2), at_of (j := i) (by omega) e1, _, rfl, _, rfl, e, xs, _, _, rfl, rfl, .inl (.inl he2), at_of (j := i + 1 + j) (by omega) e2, ?_⟩
      refine ⟨v1, v2, _, _, rfl, S.ent w1, S.ent w2, fun H3 S3 => ?_⟩
      have he3 := S3 _ _ he2
      have hq3 := S3 _ _ hq
      refine ⟨_, rfl, _, rfl, _, _, _, _, rfl, rfl, .inl (.inl hq3), rfl, e, xs, _, _, rfl, rfl, .inl (.inl he3), at_of rfl e3, _, rfl, _, rfl, _, _, _, _, rfl, rfl, .inl (.inl hq3), rfl, e, xs, _, _, rfl, rfl, .inl (.inl he3), at_of rfl e4, ?_⟩
      refine ⟨v3, v4, _, _, rfl, (S.trans S3).ent w3, (S.trans S3).ent w4, fun H4 S4 => ?_⟩
      refine ⟨_, _, rfl, rfl, _, rfl, ?_⟩
      have hrow := BF.rowP_succ 5 i j
      by_cases c : BF.wst (BF.bx bs p.1) (BF.bx bs p.2) < BF.wst (BF.bx bs i) (BF.bx bs (i + 1 + j))
      · rw [decide_eq_true c]
        refine iteT ⟨_, rfl, _, rfl, by show 2 ≤ sizeLine; decide, fun r hr0 => ?_⟩
        refine ⟨(i, i + 1 + j), r, _, rfl, ((S.trans S3).trans S4).upd3 hr0, ((S.trans S3).trans S4).free hr0, ?_, ?_, by omega, by omega⟩
        · rw [upd_same]
          show _ = some (HO.tup [.int ((i : Nat) : Int), .int ((i + 1 + j : Nat) : Int)])
          rw [show (0 : Int) + (i : Int) = ((i : Nat) : Int) by omega, show ((i : Nat) : Int) + 1 + ((j : Nat) : Int) = ((i + 1 + j : Nat) : Int) by omega]
        · rw [hrow, ← List.append_assoc, BF.bestP_snoc, ← hpb]
          exact (if_pos c).symm
      · rw [decide_eq_false c]
        refine iteF ⟨p, q, _, rfl, (S.trans S3).trans S4, hq0, S4 _ _ hq3, ?_, p1, p2⟩
        rw [hrow, ← List.append_assoc, BF.bestP_snoc, ← hpb]
        exact (if_neg c).symm
    · rintro σ H2 ⟨p, q, o2, rfl, S, hq0, hq, hpb, p1, p2⟩
      refine ⟨p, q, _, _, rfl, S, hq0, hq, ?_, p1, p2⟩
      rw [hpb, BF.rowsP_succ]
      rw [show ((xs.length : Int) - (0 + (i : Int) + 1)).toNat = 5 - (i + 1) by omega]
  · rintro σ H1 ⟨p, q, o, o2, rfl, S, hq0, hq, hpb, p1, p2⟩
    refine ⟨_, rfl, k q H1 hq0 S ?_⟩
    rw [BF.seeds_eq h5, hq, hpb, show ((xs.length : Nat) : Int).toNat = 5 by omega]
/-- two groups of entries -/
structure Grp (K : PySem.W.Frag) (H : Hp) (g ga gb : Addr) (xa xb : List V) (ba bb : List Box) : Prop where
  g : H g = some (.lst [.ref ga, .ref gb])
  a : H ga = some (.lst xa)
  b : H gb = some (.lst xb)
  pa : Paired (Ent K H) xa ba
  pb : Paired (Ent K H) xb bb
  na : ba ≠ []
  nb : bb ≠ []
  la : xa.length ≤ 100
  lb : xb.length ≤ 100
theorem _root_.L2.Same.grp {H H' : Hp} {g ga gb : Addr} {xa xb : List V} {ba bb : List Box} (S : Same H H') (h : Grp K H g ga gb xa xb ba bb) : Grp K H' g ga gb xa xb ba bb :=
  ⟨S _ _ h.g, S _ _ h.a, S _ _ h.b, Paired.impl (fun _ _ => S.ent) h.pa, Paired.impl (fun _ _ => S.ent) h.pb, h.na, h.nb, h.la, h.lb⟩
theorem boxV_ref {H : Hp} {bv : V} {bs : List Box} (h : BoxV H bv bs) (hn : bs ≠ []) : ∃ q, bv = .ref q ∧ BoxAt H q (Kvg6.joinAll bs) := by
  rcases h with ⟨h, _⟩ | ⟨_, h⟩
  · exact absurd h hn
  · exact h
def dfc (ba bb : List Box) (b : Box) : Int := Kvg6.enlargement (Kvg6.joinAll ba) b - Kvg6.enlargement (Kvg6.joinAll bb) b
def spDiff (K : PySem.W.Frag) : Sp := fun vs H Q _ => ∃ (g ga gb : Addr) (xa xb : List V) (ba bb : List Box) (v : V) (b : Box), vs = [.ref g, v] ∧ Grp K H g ga gb xa xb ba bb ∧ Ent K H v b ∧ ∀ H', Same H H' → Q (.int (dfc ba bb b)) H'
theorem sc_difference : FnScope ["groups", "entry"] ["groups", "entry"] (defScope s_difference) := ⟨rfl, rfl, rfl, by decide +kernel, rfl, by decide +kernel, by decide +kernel⟩
theorem k_difference (T : Tx K mg) : Kn P w K mg base "difference" 4 ["groups", "entry"] (spDiff K) := by
  have F := T.fn1 24 (x := "difference") (st := s_difference) rfl
  have sc := sc_difference
  let st : Stmt := s_difference
  let nn : List Str := ["groups", "entry"]
  refine ⟨F.ok sc (fun vs H Q E h => ?_) (fun cdv A outer s H vs Q E hr h => ?_), F.binds fun _ _ _ _ _ _ us hl => match us, hl with | [_, _], _ => rfl, F.kp, T.glo 21⟩

  · obtain ⟨g, ga, gb, xa, xb, ba, bb, v, b, rfl, _⟩ := h
    rfl
  obtain ⟨g, ga, gb, xa, xb, ba, bb, v, b, rfl, hg, hv, k⟩ := h
  refine ⟨_, (pss_one (ps_ret (pe_op op_sub (kc (k_enlargement T) hr (pa_cons (kc (k_box_of T) hr (pa_cons (pe_ix ix_list (pv 0) pe_int (fun _ _ => rfl)) pa_nil)) (pa_cons (pe_fld (pv 1) rfl) pa_nil))) (kc (k_enlargement T) hr (pa_cons (kc (k_box_of T) hr (pa_cons (pe_ix ix_list (pv 0) pe_int (fun _ _ => rfl)) pa_nil)) (pa_cons (pe_fld (pv 1) rfl) pa_nil)))))), ?_⟩
  obtain ⟨a1, C1, d1, f1, q1, rfl, h1, c1, n1, l1, b1⟩ := ent_fld T hv
  refine ⟨_, rfl, g, _, 0, _, rfl, rfl, .inl (.inl hg.g), rfl, ga, xa, ba, rfl, hg.a, hg.pa, hg.la, fun bv H1 S hb => ?_⟩
  obtain ⟨qa, rfl, hqa⟩ := boxV_ref hb hg.na
  refine ⟨_, rfl, _, _, _, _, _, rfl, S _ _ h1, c1, n1, l1, qa, q1, _, b, rfl, hqa, S.box b1, fun H2 S2 => ?_⟩
  have g2 := (S.trans S2).grp hg
  refine ⟨_, rfl, g, _, 1, _, rfl, rfl, .inl (.inl g2.g), rfl, gb, xb, bb, rfl, g2.b, g2.pb, hg.lb, fun bv H3 S3 hb => ?_⟩
  obtain ⟨qb, rfl, hqb⟩ := boxV_ref hb hg.nb
  have S' := (S.trans S2).trans S3
  exact ⟨_, rfl, _, _, _, _, _, rfl, S' _ _ h1, c1, n1, l1, qb, q1, _, b, rfl, hqb, S'.box b1, fun H4 S4 => ⟨_, _, rfl, rfl, k H4 (S'.trans S4)⟩⟩
def spNext (K : PySem.W.Frag) : Sp := fun vs H Q _ => ∃ (g ga gb r : Addr) (xa xb xr : List V) (ba bb br : List Box), vs = [.ref g, .ref r] ∧ Grp K H g ga gb xa xb ba bb ∧ H r = some (.lst xr) ∧ Paired (Ent K H) xr br ∧ br ≠ [] ∧ br.length ≤ 100 ∧
  ∀ (j : Nat) H', Same H H' → BF.First (fun i => [-((dfc ba bb (BF.bx br i)).natAbs : Int)]) br.length j → Q (.int (j : Nat)) H'
theorem abs_if (i : Int) : (if i < 0 then -i else i) = (i.natAbs : Int) := by omega
theorem sc_next_position : FnScope ["groups", "rest", "best", "position"] ["groups", "rest"] (defScope s_next_position) := ⟨rfl, rfl, rfl, by decide +kernel, rfl, by decide +kernel, by decide +kernel⟩
theorem k_next_position (T : Tx K mg) : Kn P w K mg base "next_position" 5 ["groups", "rest"] (spNext K) := by
  have F := T.fn1 25 (x := "next_position") (st := s_next_position) rfl
  have sc := sc_next_position
  let st : Stmt := s_next_position
  let nn : List Str := ["groups", "rest", "best", "position"]
  refine ⟨F.ok sc (fun vs H Q E h => ?_) (fun cdv A outer s H vs Q E hr h => ?_), F.binds fun _ _ _ _ _ _ us hl => match us, hl with | [_, _], _ => rfl, F.kp, T.glo 22⟩

  · obtain ⟨g, ga, gb, r, xa, xb, xr, ba, bb, br, rfl, _⟩ := h
    rfl
  obtain ⟨g, ga, gb, r, xa, xb, xr, ba, bb, br, rfl, hg, hr0, hp, hne, h100, k⟩ := h
  refine ⟨_, (pss_cons (ps_set (i := 2) sc.nd rfl (Or.inl rfl) pe_int)
      (pss_cons (ps_for PassesOwn.never rfl (pi_range2 rfl (T.free 95) (pa_cons pe_int (pa_cons (pe_callB call_len_seq (by rfl) (T.free 91) PySem.boot_len (pa_cons (pv 1) pa_nil)) pa_nil))) (pg_name (i := 3) sc.nd rfl (Or.inl rfl)) (pss_one (ps_if (pt_cmpR op_gt (pe_callB call_abs (by rfl) (T.free 97) boot_abs (pa_cons (kc (k_difference T) hr (pa_cons (pv 0) (pa_cons (pe_ix ix_list (pv 1) (pv 3) (fun _ _ => rfl)) pa_nil))) pa_nil)) (pe_callB call_abs (by rfl) (T.free 97) boot_abs (pa_cons (kc (k_difference T) hr (pa_cons (pv 0) (pa_cons (pe_ix ix_list (pv 1) (pv 2) (fun _ _ => rfl)) pa_nil))) pa_nil)) (nomark _)) (pss_one (ps_set (i := 2) sc.nd rfl (Or.inl rfl) (pv 3))) pss_nil)))
      (pss_one (ps_ret (pv 2))))), ?_⟩
  have hlen := hp.len
  have hpos : 0 < br.length := List.length_pos_iff.mpr hne
  refine ⟨_, rfl, r, xr, rfl, .inl (.inl (.inl hr0)), ?_⟩
  refine ⟨1, xr.length, rfl, ⟨by omega, by omega, by omega, by omega⟩, ?_⟩
  refine for_range (fun i σ H1 => ∃ (j : Nat) (o : Option V), σ = [some (.ref g), some (.ref r), some (.int (j : Nat)), o] ∧ Same H H1 ∧ BF.First (fun i => [-((dfc ba bb (BF.bx br i)).natAbs : Int)]) (i + 1) j) ?_ ?_ ?_
  · exact ⟨0, _, rfl, Same.refl H, BF.First.one _⟩
  · rintro i σ H1 hi ⟨j, o, rfl, S, hf⟩
    have hj := hf.lt
    obtain ⟨v1, e1, w1⟩ := ent_at hp (i := i + 1) (by omega)
    obtain ⟨v2, e2, w2⟩ := ent_at hp (i := j) (by omega)
    refine ⟨_, rfl, _, rfl, _, rfl, r, xr, _, _, rfl, rfl, .inl (.inl (S _ _ hr0)), at_of (j := i + 1) (by omega) e1, ?_⟩
    refine ⟨g, ga, gb, xa, xb, ba, bb, v1, _, rfl, S.grp hg, S.ent w1, fun H2 S2 => ⟨_, rfl, ?_⟩⟩
    have S2' := S.trans S2
    refine ⟨_, rfl, _, rfl, _, rfl, r, xr, _, _, rfl, rfl, .inl (.inl (S2' _ _ hr0)), at_of rfl e2, ?_⟩
    refine ⟨g, ga, gb, xa, xb, ba, bb, v2, _, rfl, S2'.grp hg, S2'.ent w2, fun H3 S3 => ⟨_, rfl, ?_⟩⟩
    refine ⟨_, _, rfl, rfl, _, rfl, ?_⟩
    rw [abs_if, abs_if]
    by_cases c : ((dfc ba bb (BF.bx br j)).natAbs : Int) < ((dfc ba bb (BF.bx br (i + 1))).natAbs : Int)
    · rw [decide_eq_true c]
      refine iteT ⟨_, rfl, i + 1, some (.int (1 + (i : Int))), ?_, S2'.trans S3, hf.yes (by rw [BF.klt_one]; exact decide_eq_true (by omega))⟩
      rw [show (1 : Int) + (i : Int) = ((i + 1 : Nat) : Int) by omega]
      rfl
    · rw [decide_eq_false c]
      exact iteF ⟨j, _, rfl, S2'.trans S3, hf.no (by rw [BF.klt_one]; exact decide_eq_false (by omega))⟩
  · rintro σ H1 ⟨j, o, rfl, S, hf⟩
    rw [show ((xr.length : Int) - 1).toNat + 1 = br.length by omega] at hf
    exact ⟨_, rfl, k j H1 S hf⟩
def gky (ba : List Box) (n : Nat) (b : Box) : List Int := [Kvg6.enlargement (Kvg6.joinAll ba) b, (Kvg6.joinAll ba).area, (n : Int)]
def spGrp (K : PySem.W.Frag) : Sp := fun vs H Q _ => ∃ (g ga gb : Addr) (xa xb : List V) (ba bb : List Box) (v : V) (b : Box), vs = [.ref g, v] ∧ Grp K H g ga gb xa xb ba bb ∧ Ent K H v b ∧
  ∀ H', Same H H' → Q (.int (if BF.klt (gky bb xb.length b) (gky ba xa.length b) = true then 1 else 0)) H'
theorem lex3 (a1 a2 a3 b1 b2 b3 : Int) : Ob.lexAt (fun j => decide (([a1, a2, a3] : List Int).getD j 0 = [b1, b2, b3].getD j 0)) (fun j => decide (([a1, a2, a3] : List Int).getD j 0 ≤ [b1, b2, b3].getD j 0)) (decide ([a1, a2, a3].length ≤ [b1, b2, b3].length)) 0 (min [a1, a2, a3].length [b1, b2, b3].length) = !BF.klt [b1, b2, b3] [a1, a2, a3] := by
  show (if decide (a1 = b1) = true then (if decide (a2 = b2) = true then (if decide (a3 = b3) = true then decide (3 ≤ 3) else decide (a3 ≤ b3)) else decide (a2 ≤ b2)) else decide (a1 ≤ b1)) = _
  rw [BF.klt_cons, BF.klt_cons, BF.klt_cons, BF.klt_nil]
  by_cases c1 : a1 = b1
  · subst c1
    by_cases c2 : a2 = b2
    · subst c2
      by_cases c3 : a3 = b3
      · subst c3
        simp
      · by_cases c4 : a3 < b3
        · simp [c3, show ¬ b3 < a3 by omega, show a3 ≤ b3 by omega]
        · simp [c3, show b3 < a3 by omega, show ¬ a3 ≤ b3 by omega]
    · by_cases c4 : a2 < b2
      · simp [c2, show ¬ b2 < a2 by omega, show a2 ≤ b2 by omega, show ¬ b2 = a2 by omega]
      · simp [c2, show b2 < a2 by omega, show ¬ a2 ≤ b2 by omega]
  · by_cases c4 : a1 < b1
    · simp [c1, show ¬ b1 < a1 by omega, show a1 ≤ b1 by omega, show ¬ b1 = a1 by omega]
    · simp [c1, show b1 < a1 by omega, show ¬ a1 ≤ b1 by omega]
theorem sc_group_for : FnScope ["groups", "entry", "keys", "group"] ["groups", "entry"] (defScope s_group_for) := ⟨rfl, rfl, rfl, by decide +kernel, rfl, by decide +kernel, by decide +kernel⟩
theorem k_group_for (T : Tx K mg) : Kn P w K mg base "group_for" 4 ["groups", "entry"] (spGrp K) := by
  have F := T.fn1 26 (x := "group_for") (st := s_group_for) rfl
  have sc := sc_group_for
  let st : Stmt := s_group_for
  let nn : List Str := ["groups", "entry", "keys", "group"]
  refine ⟨F.ok sc (fun vs H Q E h => ?_) (fun cdv A outer s H vs Q E hr h => ?_), F.binds fun _ _ _ _ _ _ us hl => match us, hl with | [_, _], _ => rfl, F.kp, T.glo 23⟩

  · obtain ⟨g, ga, gb, xa, xb, ba, bb, v, b, rfl, _⟩ := h
    rfl
  obtain ⟨g, ga, gb, xa, xb, ba, bb, v, b, rfl, hg, hv, k⟩ := h
  refine ⟨_, (pss_cons (ps_setLc (i := 2) (own := [("group", 3)]) (g := gName 3) (tt := tYes) rfl sc.nd rfl rfl (sw_true rfl rfl rfl (by decide +kernel)) (pi_list (pv 0)) (blkOk_by (N := nn) (sc := defScope st) (by decide +kernel)) (fun _ _ _ _ _ => (pg_name (i := 3) sc.nd rfl (Or.inl rfl))) (fun _ _ _ _ _ => pts_nil) (fun _ _ _ _ _ => (pe_tup (pa_cons (kc (k_enlargement T) hr (pa_cons (kc (k_box_of T) hr (pa_cons (pv 3) pa_nil)) (pa_cons (pe_fldK (K := K) rfl (pv 1) rfl) pa_nil))) (pa_cons (kc (k_area T) hr (pa_cons (kc (k_box_of T) hr (pa_cons (pv 3) pa_nil)) pa_nil)) (pa_cons (pe_callB (call_lenK (K := K) rfl) (by rfl) (T.free 91) PySem.boot_len (pa_cons (pv 3) pa_nil)) pa_nil))))))
      (pss_one (ps_ret (pe_ifExp (pt_cmpR (op_leT hr.units0) (pe_ix ix_list (pv 2) pe_int (fun _ _ => rfl)) (pe_ix ix_list (pv 2) pe_int (fun _ _ => rfl)) (nomark _)) pe_int pe_int)))), ?_⟩
  obtain ⟨a1, C1, d1, f1, q1, rfl, h1, c1, n1, l1, b1⟩ := ent_fld T hv
  refine ⟨_, rfl, g, rfl, ⟨_, .inl (.inl hg.g)⟩, ?_⟩
  refine lc_li (xs := [.ref ga, .ref gb]) (R0 := fun u (z : Addr × List V × List Box) => u = .ref z.1 ∧ H z.1 = some (.lst z.2.1) ∧ Paired (Ent K H) z.2.1 z.2.2 ∧ z.2.2 ≠ [] ∧ z.2.1.length ≤ 100) [(ga, xa, ba), (gb, xb, bb)] (fun _ => true) (fun H' u z => KeyT H' u (gky z.2.2 z.2.1.length b))
    (.cons ⟨rfl, hg.a, hg.pa, hg.na, hg.la⟩ (.cons ⟨rfl, hg.b, hg.pb, hg.nb, hg.lb⟩ .nil)) ?_ ?_ ?_ ?_ ?_ ?_ ?_
  · exact fun H2 S => .inl (.inl (S _ _ hg.g))
  · show 2 < sizeLine
    decide
  · exact fun _ _ _ _ S => S.keyT
  · exact fun _ => rfl
  · exact fun x z H1 _ _ _ k hk => hk H1 (Same.refl H1)
  · rintro x ⟨z1, z2, z3⟩ H1 D acc ⟨rfl, y1, y2, y3, y4⟩ _ _ S S' hD k hk
    refine ⟨_, rfl, z1, z2, z3, rfl, S _ _ y1, Paired.impl (fun _ _ => S.ent) y2, y4, fun bv H2 S2 hb => ?_⟩
    obtain ⟨qa, rfl, hqa⟩ := boxV_ref hb y3
    have T2 := S.trans S2
    refine ⟨_, rfl, _, _, _, _, _, rfl, T2 _ _ h1, c1, n1, l1, qa, q1, _, b, rfl, hqa, T2.box b1, fun H3 S3 => ?_⟩
    have T3 := T2.trans S3
    refine ⟨_, rfl, z1, z2, z3, rfl, T3 _ _ y1, Paired.impl (fun _ _ => T3.ent) y2, y4, fun bv H4 S4 hb => ?_⟩
    obtain ⟨qb, rfl, hqb⟩ := boxV_ref hb y3
    refine ⟨qb, _, rfl, hqb, _, rfl, z1, z2, rfl, .inl (.inl (.inl ((T3.trans S4) _ _ y1))), by show 3 ≤ sizeLine; decide, fun p hp => ?_⟩
    refine hk _ _ (((S2.trans S3).trans S4).upd3 hp) ⟨p, rfl, ?_⟩
    refine off_ne (o := .tup _) upd_same (u := .lst acc) ?_ (fun z => nomatch z)
    rw [upd_ne (ne_of_none (((S2.trans S3).trans S4) _ _ hD) hp)]
    exact ((S2.trans S3).trans S4) _ _ hD
  · intro D H' ys hD S hl2 hys
    cases hys with
    | cons y1 hys =>
      cases hys with
      | cons y2 hys =>
        cases hys
        obtain ⟨r1, rfl, r1h⟩ := y1
        obtain ⟨r2, rfl, r2h⟩ := y2
        refine ⟨_, rfl, D, _, 0, _, rfl, rfl, .inl (.inl hl2), rfl, _, rfl, D, _, 1, _, rfl, rfl, .inl (.inl hl2), rfl, ?_⟩
        refine ⟨r1, r2, _, _, rfl, rfl, .inl (.inl (off_same _ _ r1h)), .inl (.inl (off_same _ _ r2h)), _, rfl, ?_⟩
        unfold gky at *
        rw [lex3]
        have := k H' S
        cases c : BF.klt [Kvg6.enlargement (Kvg6.joinAll bb) b, (Kvg6.joinAll bb).area, (xb.length : Int)] [Kvg6.enlargement (Kvg6.joinAll ba) b, (Kvg6.joinAll ba).area, (xa.length : Int)] with
        | true =>
          rw [c, if_pos rfl] at this
          exact iteF this
        | false =>
          rw [c, if_neg (by decide)] at this
          exact iteT this
def spNeed (K : PySem.W.Frag) : Sp := fun vs H Q _ => ∃ (g ga gb r : Addr) (xa xb xr : List V), vs = [.ref g, .ref r] ∧ H g = some (.lst [.ref ga, .ref gb]) ∧ H ga = some (.lst xa) ∧ H gb = some (.lst xb) ∧ H r = some (.lst xr) ∧
  (xa.length + xr.length = 2 → Q (.int 0) H) ∧ (¬ xa.length + xr.length = 2 → xb.length + xr.length = 2 → Q (.int 1) H) ∧ (¬ xa.length + xr.length = 2 → ¬ xb.length + xr.length = 2 → Q .non H)
theorem sc_group_in_need : FnScope ["groups", "rest", "number"] ["groups", "rest"] (defScope s_group_in_need) := ⟨rfl, rfl, rfl, by decide +kernel, rfl, by decide +kernel, by decide +kernel⟩
theorem k_group_in_need (T : Tx K mg) : Kn P w K mg base "group_in_need" 1 ["groups", "rest"] (spNeed K) := by
  have F := T.fn1 27 (x := "group_in_need") (st := s_group_in_need) rfl
  have sc := sc_group_in_need
  obtain ⟨tLEAST_ENTRIES, gLEAST_ENTRIES⟩ := T.int 113 (x := "LEAST_ENTRIES") rfl
  let st : Stmt := s_group_in_need
  let nn : List Str := ["groups", "rest", "number"]
  refine ⟨F.ok sc (fun vs H Q E h => ?_) (fun cdv A outer s H vs Q E hr h => ?_), F.binds fun _ _ _ _ _ _ us hl => match us, hl with | [_, _], _ => rfl, F.kp, T.glo 24⟩

  · obtain ⟨g, ga, gb, r, xa, xb, xr, rfl, _⟩ := h
    rfl
  obtain ⟨g, ga, gb, r, xa, xb, xr, rfl, hg, ha, hb, hr0, k1, k2, k3⟩ := h
  refine ⟨_, (pss_cons (ps_for PassesOwn.never rfl (pi_range1 rfl (T.free 95) (pa_cons pe_int pa_nil)) (pg_name (i := 2) sc.nd rfl (Or.inl rfl)) (pss_one (ps_if (pt_cmpR op_eq (pe_op op_add (pe_callB call_len_seq (by rfl) (T.free 91) PySem.boot_len (pa_cons (pe_ix ix_list (pv 0) (pv 2) (fun _ _ => rfl)) pa_nil)) (pe_callB call_len_seq (by rfl) (T.free 91) PySem.boot_len (pa_cons (pv 1) pa_nil))) (pe_glob (v := .int (2)) rfl gLEAST_ENTRIES ⟨_, rfl⟩) (nomark _)) (pss_one (ps_ret (pv 2))) pss_nil)))
      (pss_one (ps_ret pe_non))), ?_⟩
  refine ⟨2, rfl, by decide, by decide, ?_⟩
  refine for_range (fun i σ H1 => ∃ o, σ = [some (.ref g), some (.ref r), o] ∧ H1 = H ∧ (1 ≤ i → ¬ xa.length + xr.length = 2) ∧ (2 ≤ i → ¬ xb.length + xr.length = 2)) ?_ ?_ ?_
  · exact ⟨_, rfl, rfl, by omega, by omega⟩
  · rintro i σ H1 hi ⟨o, rfl, rfl, y1, y2⟩
    have hi2 : i = 0 ∨ i = 1 := by omega
    rcases hi2 with rfl | rfl
    · refine ⟨_, rfl, _, rfl, g, _, 0, _, rfl, rfl, .inl (.inl hg), rfl, ga, xa, rfl, .inl (.inl (.inl ha)), _, rfl, r, xr, rfl, .inl (.inl (.inl hr0)), _, _, rfl, rfl, rfl, _, rfl, ?_⟩
      by_cases c : xa.length + xr.length = 2
      · rw [decide_eq_true (by show V.int ((xa.length : Int) + (xr.length : Int)) = V.int 2; rw [show (xa.length : Int) + (xr.length : Int) = 2 by omega])]
        exact iteT ⟨_, rfl, k1 c⟩
      · rw [decide_eq_false (fun z => by injection z with z; omega)]
        exact iteF ⟨_, rfl, rfl, fun _ => c, by omega⟩
    · refine ⟨_, rfl, _, rfl, g, _, 1, _, rfl, rfl, .inl (.inl hg), rfl, gb, xb, rfl, .inl (.inl (.inl hb)), _, rfl, r, xr, rfl, .inl (.inl (.inl hr0)), _, _, rfl, rfl, rfl, _, rfl, ?_⟩
      by_cases c : xb.length + xr.length = 2
      · rw [decide_eq_true (by show V.int ((xb.length : Int) + (xr.length : Int)) = V.int 2; rw [show (xb.length : Int) + (xr.length : Int) = 2 by omega])]
        exact iteT ⟨_, rfl, k2 (y1 (by omega)) c⟩
      · rw [decide_eq_false (fun z => by injection z with z; omega)]
        exact iteF ⟨_, rfl, rfl, fun _ => y1 (by omega), fun _ => c⟩
  · rintro σ H1 ⟨o, rfl, rfl, y1, y2⟩
    exact k3 (y1 (by decide)) (y2 (by decide))
end
end BFW
namespace BFW
open PySem PySem.Spec PyProof.Rows L2 BFH
open Kvg6 (Box Item)
open BF (BoxOk ItOk)
section
variable {P : Program} {w : World} {K : PySem.W.Frag} {mg : Str → Option Value} {base : Heap}
theorem lc_rg {lo : Int} {n : Nat} {H0 : Hp} {i0 : Nat} {tt : TT} {te : TE} {vs : List Nat} {σ : L2.St} {Qd : Addr → Hp → Prop} {α : Type} (zs : List α) (p : α → Bool) (R : Hp → V → α → Prop)
    (hn : zs.length = n) (hz : n < sizeLine) (mono : ∀ H H' v z, Same H H' → R H v z → R H' v z)
    (hw : ∀ x, wipe (((wipe σ vs).set i0 (some x))) vs = wipe σ vs)
    (test : ∀ i z H, zs[i]? = some z → Same H0 H → ∀ k : Bool → Hp → Prop, (∀ H', Same H H' → k (p z) H') → tt ((wipe σ vs).set i0 (some (.int (lo + (i : Nat))))) H k)
    (elt : ∀ i z H D acc, zs[i]? = some z → p z = true → Same H0 H → Same H0 (off H D) → H D = some (.lst acc) → ∀ k : VK, (∀ y H', Same H H' → R (off H' D) y z → k y H') → te ((wipe σ vs).set i0 (some (.int (lo + (i : Nat))))) H k)
    (fin : ∀ D H' ys, H0 D = none → Same H0 H' → H' D = some (.lst ys) → Paired (R (off H' D)) ys (zs.filter p) → Qd D H') :
    ∀ D, H0 D = none → ∃ W : Nat → Nat → Hp → Prop, (∃ m, W 0 m (upd H0 D (.lst []))) ∧ ∀ i m H, W i m H →
      ((Itr lo n).stop i H ∧ Qd D H) ∨ ((Itr lo n).go i H ∧ ∃ Nx : Hp → Prop, (∀ H', Nx H' → ∃ m', m' < m ∧ W (i + 1) m' H') ∧ ∀ x H', (Itr lo n).yld i H x H' → gName i0 x (wipe σ vs) H' fun σ2 H2 => wipe σ2 vs = wipe σ vs ∧ tt σ2 H2 fun b H3 =>
        if b = true then te σ2 H3 fun y H4 => ∃ acc, H4 D = some (.lst acc) ∧ acc.length < sizeLine ∧ Nx (upd H4 D (.lst (acc ++ [y]))) else Nx H3) := by
  intro D hD
  refine lc_gen (f := fun i => .int (lo + (i : Nat))) zs p R walk_range hn hz hD (fun _ _ => trivial) mono hw ?_ ?_ (fun H' ys => fin D H' ys hD)
  · exact fun i z H hi hz1 S k hk => test i z H hz1 S k hk
  · exact fun i z H acc hi hz1 hp S S' ha k hk => elt i z H D acc hz1 hp S S' ha k hk
theorem getD_some {α : Type} {l : List α} {i : Nat} {v d : α} (h : l[i]? = some v) : l.getD i d = v := by
  rw [List.getD_eq_getElem?_getD, h]
  rfl
abbrev pk (xs : List V) (l : List Nat) : List V := l.map fun i => xs.getD i .non
theorem pick_is {xs : List V} : ∀ {l : List Nat}, (∀ i ∈ l, i < xs.length) → BF.pick xs l = pk xs l
  | [], _ => rfl
  | i :: l, h => by
    have h1 := h i List.mem_cons_self
    have ih := pick_is (l := l) fun j hj => h j (List.mem_cons_of_mem _ hj)
    unfold BF.pick at *
    rw [List.filterMap_cons, List.getElem?_eq_getElem h1]
    show xs[i] :: _ = xs.getD i .non :: _
    rw [ih, List.getD_eq_getElem?_getD, List.getElem?_eq_getElem h1]
    rfl
theorem pk_ent {H : Hp} {xs : List V} {bs : List Box} (h : Paired (Ent K H) xs bs) : ∀ {l : List Nat}, (∀ i ∈ l, i < bs.length) → Paired (Ent K H) (pk xs l) (l.map (BF.bx bs))
  | [], _ => .nil
  | i :: l, hl => by
    obtain ⟨v, e, r⟩ := ent_at h (hl i List.mem_cons_self)
    refine .cons ?_ (pk_ent h fun j hj => hl j (List.mem_cons_of_mem _ hj))
    show Ent K H (xs.getD i .non) _
    rw [getD_some e]
    exact r
theorem cut_lo {xs : List V} {j : Nat} (h : j ≤ xs.length) : cutV xs none (some (j : Int)) = xs.take j := by
  unfold cutV HT.sIx
  dsimp only
  rw [if_neg (by omega)]
  have e1 : min (((j : Nat) : Int)).toNat xs.length = j := by omega
  rw [e1]
  rfl
theorem cut_hi {xs : List V} {j : Nat} {z : Int} (e : z = (j : Int)) (h : j ≤ xs.length) : cutV xs (some z) none = xs.drop j := by
  subst e
  unfold cutV HT.sIx
  dsimp only
  rw [if_neg (by omega)]
  have e1 : min (((j : Nat) : Int)).toNat xs.length = j := by omega
  rw [e1]
  exact List.take_of_length_le (by rw [List.length_drop]; omega)
theorem pk_at {xs : List V} {l : List Nat} {j : Nat} (h : j < l.length) : (pk xs l)[j]? = some (xs.getD (l.getD j 0) .non) := by
  rw [List.getElem?_map, List.getElem?_eq_getElem h, getD_some (List.getElem?_eq_getElem h)]
  rfl
theorem getD_lt {l : List Nat} {j n : Nat} (h : j < l.length) (hl : ∀ i ∈ l, i < n) : l.getD j 0 < n := by
  rw [List.getD_eq_getElem?_getD, List.getElem?_eq_getElem h]
  exact hl _ (List.getElem_mem h)
theorem bx_map {bs : List Box} {l : List Nat} {j : Nat} (h : j < l.length) : BF.bx (l.map (BF.bx bs)) j = BF.bx bs (l.getD j 0) := by
  show (l.map (BF.bx bs)).getD j ⟨0, 0, 0, 0⟩ = _
  refine getD_some ?_
  rw [List.getElem?_map, List.getElem?_eq_getElem h, getD_some (List.getElem?_eq_getElem h)]
  rfl
/-- the state of a split -/
structure SpSt (K : PySem.W.Frag) (H H1 : Hp) (xs : List V) (bs : List Box) (g ga gb r : Addr) (ia ib rem : List Nat) : Prop where
  S : Same H H1
  g0 : H g = none
  a0 : H ga = none
  b0 : H gb = none
  r0 : H r = none
  gl : H1 g = some (.lst [.ref ga, .ref gb])
  al : H1 ga = some (.lst (pk xs ia))
  bl : H1 gb = some (.lst (pk xs ib))
  rl : H1 r = some (.lst (pk xs rem))
  gna : g ≠ ga
  gnb : g ≠ gb
  anb : ga ≠ gb
  rng : r ≠ g
  rna : r ≠ ga
  rnb : r ≠ gb
  ha : ∀ i ∈ ia, i < 5
  hb : ∀ i ∈ ib, i < 5
  hr : ∀ i ∈ rem, i < 5
  na : ia ≠ []
  nb : ib ≠ []
  nd : rem.Nodup
  five : ia.length + ib.length + rem.length = 5
  goal : ∃ n, rem.length ≤ n ∧ Kvg6.distribute bs n rem ia ib = Kvg6.splitIndices bs
def spSplit (K : PySem.W.Frag) : Sp := fun vs H Q _ => ∃ (e : Addr) (xs : List V) (bs : List Box), vs = [.ref e] ∧ H e = some (.lst xs) ∧ Paired (Ent K H) xs bs ∧ bs.length = 5 ∧
  ∀ g ga gb H', H g = none → H ga = none → H gb = none → g ≠ ga → g ≠ gb → ga ≠ gb → Same H H' → H' g = some (.lst [.ref ga, .ref gb]) → H' ga = some (.lst (BF.pick xs (Kvg6.splitIndices bs).1)) → H' gb = some (.lst (BF.pick xs (Kvg6.splitIndices bs).2)) → Q (.ref g) H'
theorem rem_test (k a b : Nat) : (!inV (.int (0 + (k : Int))) [.int (a : Nat), .int (b : Nat)]) = (k != a && k != b) := by
  show (!((((a : Nat) : Int) == 0 + (k : Int)) || ((((b : Nat) : Int) == 0 + (k : Int)) || false))) = _
  rw [Int.zero_add, Bool.or_false, Bool.not_or]
  congr 1
  · show (!_) = !_
    congr 1
    by_cases h : k = a
    · subst h; simp
    · rw [beq_eq_false_iff_ne.mpr h, beq_eq_false_iff_ne.mpr (by omega)]
  · show (!_) = !_
    congr 1
    by_cases h : k = b
    · subst h; simp
    · rw [beq_eq_false_iff_ne.mpr h, beq_eq_false_iff_ne.mpr (by omega)]
theorem paired_pk {xs : List V} : ∀ {ys : List V} {l : List Nat}, Paired (fun v k => xs[k]? = some v) ys l → ys = pk xs l
  | _, _, .nil => rfl
  | _, _, .cons h t => by
    rw [paired_pk t, pk, pk, List.map_cons, getD_some h]
theorem split_start {bs : List Box} (h5 : bs.length = 5) : ∃ s1 s2, (Kvg6.seeds bs).1 = s1 ∧ (Kvg6.seeds bs).2 = s2 ∧ s1 < s2 ∧ s2 < 5 ∧ (BF.rem0 5 (s1, s2)).length = 3 ∧ (BF.rem0 5 (s1, s2)).Nodup ∧ Kvg6.splitIndices bs = Kvg6.distribute bs 5 (BF.rem0 5 (s1, s2)) [s1] [s2] := by
  obtain ⟨s12, s25⟩ := BF.seeds_lt h5
  have hfac := BF.rem5_facts ⟨(Kvg6.seeds bs).1, by omega⟩ ⟨(Kvg6.seeds bs).2, s25⟩ s12
  have hspl := BF.split_eq bs
  rw [h5] at hspl
  exact ⟨_, _, rfl, rfl, s12, s25, hfac.1, hfac.2.1, hspl⟩
theorem sc_split : FnScope ["entries", "first", "second", "groups", "rest", "number", "position", "k"] ["entries"] (defScope s_split) := ⟨rfl, rfl, rfl, by decide +kernel, rfl, by decide +kernel, by decide +kernel⟩
theorem k_split (T : Tx K mg) : Kn P w K mg base "split" 6 ["entries"] (spSplit K) := by
  have F := T.fn1 28 (x := "split") (st := s_split) rfl
  have sc := sc_split
  let st : Stmt := s_split
  let nn : List Str := ["entries", "first", "second", "groups", "rest", "number", "position", "k"]
  refine ⟨F.ok sc (fun vs H Q E h => ?_) (fun cdv A outer s H vs Q E hr h => ?_), F.binds fun _ _ _ _ _ _ us hl => match us, hl with | [_], _ => rfl, F.kp, T.glo 25⟩

  · obtain ⟨e, xs, bs, rfl, _⟩ := h
    rfl
  obtain ⟨e, xs, bs, rfl, he, hp, h5, k⟩ := h
  refine ⟨_, (pss_cons (ps_asg (kc (k_seeds T) hr (pa_cons (pv 0) pa_nil)) (pg_tup rfl (pgs_cons (pg_name (i := 1) sc.nd rfl (Or.inr rfl)) (pgs_cons (pg_name (i := 2) sc.nd rfl (Or.inr rfl)) pgs_nil))))
      (pss_cons (ps_set (i := 3) sc.nd rfl (Or.inl rfl) (pe_lst (pa_cons (pe_lst (pa_cons (pe_ix ix_list (pv 0) (pv 1) (fun _ _ => rfl)) pa_nil)) (pa_cons (pe_lst (pa_cons (pe_ix ix_list (pv 0) (pv 2) (fun _ _ => rfl)) pa_nil)) pa_nil))))
      (pss_cons (ps_setLc (i := 4) (own := [("k", 7)]) (g := gName 7) rfl sc.nd rfl rfl (sw_true rfl rfl rfl (by decide +kernel)) (pi_range1 rfl (T.free 95) (pa_cons (pe_callB call_len_seq (by rfl) (T.free 91) PySem.boot_len (pa_cons (pv 0) pa_nil)) pa_nil)) (blkOk_by (N := nn) (sc := defScope st) (by decide +kernel)) (fun _ _ _ _ _ => (pg_name (i := 7) sc.nd rfl (Or.inl rfl))) (fun _ _ _ _ _ => (pts_one (pt_cmpR (op_notInK (K := K) rfl) (pv 7) (pe_tup (pa_cons (pv 1) (pa_cons (pv 2) pa_nil))) (by with_unfolding_all rfl)))) (fun _ _ _ _ _ => (pe_ix (ix_listK (K := K) rfl) (pv 0) (pv 7) (fun _ _ => rfl))))
      (pss_cons (ps_while PassesOwn.never (pt_cmpR (op_neNil hr.units0) (pv 4) (pe_lst pa_nil) (nomark _)) (pss_cons (ps_set (i := 5) sc.nd rfl (Or.inl rfl) (kc (k_group_in_need T) hr (pa_cons (pv 3) (pa_cons (pv 4) pa_nil))))
      (pss_one (ps_if (pt_cmpR op_notN (pv 5) pe_non (nomark _)) (pss_cons (ps_expr (pe_bm PySem.F.plainAttrs_list PySem.F.slot_list_extend PySem.F.type_list_extend mt_extend (pe_ix ix_list (pv 3) (pv 5) (fun _ _ => rfl)) (pa_cons (pv 4) pa_nil)))
      (pss_one (ps_set (i := 4) sc.nd rfl (Or.inl rfl) (pe_lst pa_nil)))) (pss_cons (ps_set (i := 6) sc.nd rfl (Or.inl rfl) (kc (k_next_position T) hr (pa_cons (pv 3) (pa_cons (pv 4) pa_nil))))
      (pss_cons (ps_expr (pe_bm PySem.F.plainAttrs_list PySem.F.slot_list_append PySem.F.type_list_append mt_append (pe_ix ix_list (pv 3) (kc (k_group_for T) hr (pa_cons (pv 3) (pa_cons (pe_ix ix_list (pv 4) (pv 6) (fun _ _ => rfl)) pa_nil))) (fun _ _ => rfl)) (pa_cons (pe_ix ix_list (pv 4) (pv 6) (fun _ _ => rfl)) pa_nil)))
      (pss_one (ps_set (i := 4) sc.nd rfl (Or.inl rfl) (pe_op op_cat (pe_slice sl_list (pv 4) po_none (po_some (pv 6))) (pe_slice sl_list (pv 4) (po_some (pe_op op_add (pv 6) pe_int)) po_none))))))))))
      (pss_one (ps_ret (pv 3))))))), ?_⟩
  have hx5 : xs.length = 5 := hp.len.trans h5
  refine ⟨_, rfl, e, xs, bs, rfl, he, hp, h5, fun q H1 hq0 S1 hq => ?_⟩
  obtain ⟨s1, s2, es1, es2, s12, s25, f1, f2, hspl⟩ := split_start h5
  rw [es1, es2] at hq
  obtain ⟨v1, e1, w1⟩ := ent_at hp (i := s1) (by omega)
  obtain ⟨v2, e2, w2⟩ := ent_at hp (i := s2) (by omega)
  refine ⟨q, _, rfl, .inl (.inl hq), rfl, _, _, rfl, _, _, rfl, rfl, ?_⟩
  refine ⟨_, rfl, _, rfl, e, xs, _, _, rfl, rfl, .inl (.inl (S1 _ _ he)), at_of rfl e1, by show 1 ≤ sizeLine; decide, fun ga hga => ?_⟩
  have S2 := Same.upd (o := .lst [v1]) hga
  refine ⟨_, rfl, _, rfl, e, xs, _, _, rfl, rfl, .inl (.inl (S2 _ _ (S1 _ _ he))), at_of rfl e2, by show 1 ≤ sizeLine; decide, fun gb hgb => ?_⟩
  have S3 := Same.upd (o := .lst [v2]) hgb
  refine ⟨by show 2 ≤ sizeLine; decide, fun g hg => ?_⟩
  have S4 := Same.upd (o := .lst [.ref ga, .ref gb]) hg
  have A2 := upd_same (H := H1) (a := ga) (o := .lst [v1])
  have A3 := S3 _ _ A2
  have A4 := S4 _ _ A3
  have B3 := upd_same (H := upd H1 ga (.lst [v1])) (a := gb) (o := .lst [v2])
  have B4 := S4 _ _ B3
  have G4 := upd_same (H := upd (upd H1 ga (.lst [v1])) gb (.lst [v2])) (a := g) (o := .lst [.ref ga, .ref gb])
  have hab : ga ≠ gb := ne_of_none A2 hgb
  have hag : ga ≠ g := ne_of_none A3 hg
  have hbg : gb ≠ g := ne_of_none B3 hg
  have a0 : H ga = none := S1.free hga
  have b0 : H gb = none := (S1.trans S2).free hgb
  have g0 : H g = none := ((S1.trans S2).trans S3).free hg
  have SS := ((S1.trans S2).trans S3).trans S4
  generalize upd (upd (upd H1 ga (.lst [v1])) gb (.lst [v2])) g (.lst [.ref ga, .ref gb]) = H4 at *
  refine ⟨_, rfl, e, xs, rfl, .inl (.inl (.inl (SS _ _ he))), xs.length, rfl, by omega, by omega, ?_⟩
  refine lc_rg (List.range 5) (fun k => k != s1 && k != s2) (fun _ v k => xs[k]? = some v) ?_ ?_ ?_ ?_ ?_ ?_ ?_
  · rw [List.length_range, hx5]
    rfl
  · rw [hx5]
    decide
  · exact fun _ _ _ _ _ h => h
  · exact fun _ => rfl
  · intro i z H5 hz S k hk
    have ez : z = i := by
      by_cases c : i < 5
      · rw [List.getElem?_range c] at hz
        exact (Option.some.inj hz).symm
      · rw [List.getElem?_eq_none (by rw [List.length_range]; omega)] at hz
        cases hz
    subst ez
    refine ⟨_, rfl, _, rfl, _, rfl, by show 2 ≤ sizeLine; decide, fun t ht => ?_⟩
    refine ⟨t, _, rfl, .inr (.inl (.inl upd_same)), rfl, rfl, _, rfl, ?_⟩
    show k (!inV (.int (0 + (z : Int))) [.int (s1 : Nat), .int (s2 : Nat)]) _
    rw [rem_test]
    exact hk _ (Same.upd ht)
  · intro i z H5 D acc hz hpz S S' hD k hk
    have ez : z = i ∧ i < 5 := by
      by_cases c : i < 5
      · rw [List.getElem?_range c] at hz
        exact ⟨(Option.some.inj hz).symm, c⟩
      · rw [List.getElem?_eq_none (by rw [List.length_range]; omega)] at hz
        cases hz
    obtain ⟨rfl, hi⟩ := ez
    obtain ⟨v, ev, _⟩ := ent_at hp (i := z) (by omega)
    exact ⟨_, rfl, _, rfl, e, xs, _, _, rfl, rfl, .inl (.inl (S _ _ (SS _ _ he))), at_of (j := z) (by omega) ev, hk _ _ (Same.refl _) ev⟩
  · intro r H5 ys hr0 S5 hys hpy
    have ey := paired_pk hpy
    subst ey
    have st : SpSt K H H5 xs bs g ga gb r [s1] [s2] (BF.rem0 5 (s1, s2)) := by
      refine ⟨SS.trans S5, g0, a0, b0, SS.free hr0, S5 _ _ G4, ?_, ?_, hys, hag.symm, hbg.symm, hab, (ne_of_none G4 hr0).symm, (ne_of_none A4 hr0).symm, (ne_of_none B4 hr0).symm, ?_, ?_, ?_, by simp, by simp, f2, ?_, 5, ?_, ?_⟩
      · rw [S5 _ _ A4, pk, List.map_cons, getD_some e1]
        rfl
      · rw [S5 _ _ B4, pk, List.map_cons, getD_some e2]
        rfl
      · exact fun i hi => by rw [List.mem_singleton.mp hi]; omega
      · exact fun i hi => by rw [List.mem_singleton.mp hi]; omega
      · exact fun i hi => List.mem_range.mp (List.mem_filter.mp hi).1
      · rw [f1]
        rfl
      · rw [f1]
        decide
      · exact hspl.symm
    refine ⟨fun m σ H6 => ∃ r ia ib rem o5 o6, σ = [some (.ref e), some (.int s1), some (.int s2), some (.ref g), some (.ref r), o5, o6, none] ∧ m = rem.length ∧ SpSt K H H6 xs bs g ga gb r ia ib rem, ⟨_, r, [s1], [s2], _, none, none, rfl, rfl, st⟩, ?_⟩
    rintro m σ H6 ⟨r, ia, ib, rem, o5, o6, rfl, rfl, st⟩
    have wa : ∀ i ∈ ia, i < bs.length := fun i hi => by have := st.ha i hi; omega
    have wb : ∀ i ∈ ib, i < bs.length := fun i hi => by have := st.hb i hi; omega
    have wr : ∀ i ∈ rem, i < bs.length := fun i hi => by have := st.hr i hi; omega
    refine ⟨_, rfl, by show 0 ≤ sizeLine; exact Nat.zero_le _, fun l hl => ?_⟩
    have Sl := Same.upd (o := .lst []) hl
    refine ⟨r, l, _, rfl, rfl, .inl (.inl (Sl _ _ st.rl)), upd_same, _, rfl, ?_⟩
    by_cases c : rem = []
    · subst c
      refine iteF ⟨_, rfl, ?_⟩
      obtain ⟨n, _, hn⟩ := st.goal
      rw [BF.dist_nil] at hn
      refine k g ga gb _ st.g0 st.a0 st.b0 st.gna st.gnb st.anb (st.S.trans Sl) (Sl _ _ st.gl) ?_ ?_
      · rw [← hn, pick_is (by rw [hx5]; exact st.ha)]
        exact Sl _ _ st.al
      · rw [← hn, pick_is (by rw [hx5]; exact st.hb)]
        exact Sl _ _ st.bl
    · have cx : (!(pk xs rem).isEmpty) = true := by
        cases rem with
        | nil => exact absurd rfl c
        | cons => rfl
      rw [cx]
      have st := st
      have g1 := Sl _ _ st.gl
      have a1 := Sl _ _ st.al
      have b1 := Sl _ _ st.bl
      have r1 := Sl _ _ st.rl
      have Sb := st.S.trans Sl
      generalize upd H6 l (.lst []) = H7 at *
      have la : (pk xs ia).length = ia.length := List.length_map ..
      have lb : (pk xs ib).length = ib.length := List.length_map ..
      have lr : (pk xs rem).length = rem.length := List.length_map ..
      have five := st.five
      have rpos : 0 < rem.length := List.length_pos_iff.mpr c
      refine iteT ⟨fun σ' H' => ∃ m', m' < rem.length ∧ ∃ r ia ib rem o5 o6, σ' = [some (.ref e), some (.int s1), some (.int s2), some (.ref g), some (.ref r), o5, o6, none] ∧ m' = rem.length ∧ SpSt K H H' xs bs g ga gb r ia ib rem, fun σ' H' h => h, ?_⟩
      obtain ⟨n, hn1, hn2⟩ := st.goal
      obtain ⟨n, rfl⟩ : ∃ n', n = n' + 1 := ⟨n - 1, by omega⟩
      refine ⟨_, rfl, _, rfl, g, ga, gb, r, _, _, _, rfl, g1, a1, b1, r1, fun c1 => ?_, fun c1 c2 => ?_, fun c1 c2 => ?_⟩
      · -- the first group is in need
        refine ⟨_, rfl, rfl, _, rfl, ?_⟩
        rw [show (!decide (V.int 0 = V.non)) = true from rfl]
        refine iteT ⟨_, rfl, _, rfl, g, _, 0, _, rfl, rfl, .inl (.inl g1), rfl, .inl ⟨rfl, _, .inl (.inl a1)⟩, _, rfl, ga, r, _, _, rfl, rfl, a1, r1, line_small (by omega), ?_⟩
        refine ⟨Nat.zero_le _, fun r' hr' => ?_⟩
        have hra : r' ≠ ga := fun z => by rw [z, upd_same] at hr'; cases hr'
        have hr7 : H7 r' = none := by rw [upd_ne hra] at hr'; exact hr'
        refine ⟨0, rpos, r', ia ++ rem, ib, [], _, _, rfl, rfl, ?_⟩
        rw [BF.dist_A c (by omega)] at hn2
        refine ⟨(Sb.upd2 st.a0).upd3 hr', st.g0, st.a0, st.b0, Sb.free hr7, ?_, ?_, ?_, upd_same, st.gna, st.gnb, st.anb, (ne_of_none g1 hr7).symm, hra, (ne_of_none b1 hr7).symm, fun i hi => (List.mem_append.mp hi).elim (st.ha i) (st.hr i), st.hb, fun i hi => (nomatch hi), by simp [st.na], st.nb, List.nodup_nil, by simp; omega, 0, Nat.le_refl _, by rw [BF.dist_nil]; exact hn2⟩
        · rw [upd_ne (ne_of_none g1 hr7), upd_ne st.gna]
          exact g1
        · rw [upd_ne hra.symm, upd_same, pk, pk, pk, List.map_append]
        · rw [upd_ne (ne_of_none b1 hr7), upd_ne st.anb.symm]
          exact b1
      · -- the second one
        refine ⟨_, rfl, rfl, _, rfl, ?_⟩
        rw [show (!decide (V.int 1 = V.non)) = true from rfl]
        refine iteT ⟨_, rfl, _, rfl, g, _, 1, _, rfl, rfl, .inl (.inl g1), rfl, .inl ⟨rfl, _, .inl (.inl b1)⟩, _, rfl, gb, r, _, _, rfl, rfl, b1, r1, line_small (by omega), ?_⟩
        refine ⟨Nat.zero_le _, fun r' hr' => ?_⟩
        have hrb : r' ≠ gb := fun z => by rw [z, upd_same] at hr'; cases hr'
        have hr7 : H7 r' = none := by rw [upd_ne hrb] at hr'; exact hr'
        refine ⟨0, rpos, r', ia, ib ++ rem, [], _, _, rfl, rfl, ?_⟩
        rw [BF.dist_B c (by omega) (by omega)] at hn2
        refine ⟨(Sb.upd2 st.b0).upd3 hr', st.g0, st.a0, st.b0, Sb.free hr7, ?_, ?_, ?_, upd_same, st.gna, st.gnb, st.anb, (ne_of_none g1 hr7).symm, (ne_of_none a1 hr7).symm, hrb, st.ha, fun i hi => (List.mem_append.mp hi).elim (st.hb i) (st.hr i), fun i hi => (nomatch hi), st.na, by simp [st.nb], List.nodup_nil, by simp; omega, 0, Nat.le_refl _, by rw [BF.dist_nil]; exact hn2⟩
        · rw [upd_ne (ne_of_none g1 hr7), upd_ne st.gnb]
          exact g1
        · rw [upd_ne (ne_of_none a1 hr7), upd_ne st.anb]
          exact a1
        · rw [upd_ne hrb.symm, upd_same, pk, pk, pk, List.map_append]
      · refine ⟨_, rfl, rfl, _, rfl, ?_⟩
        rw [show (!decide (V.non = V.non)) = false from rfl]
        refine iteF ?_
        have G1 : Grp K H7 g ga gb (pk xs ia) (pk xs ib) (ia.map (BF.bx bs)) (ib.map (BF.bx bs)) := ⟨g1, a1, b1, pk_ent (Paired.impl (fun _ _ => Sb.ent) hp) wa, pk_ent (Paired.impl (fun _ _ => Sb.ent) hp) wb, by simp [st.na], by simp [st.nb], by omega, by omega⟩
        refine ⟨_, rfl, _, rfl, g, ga, gb, r, _, _, _, _, _, rem.map (BF.bx bs), rfl, G1, r1, pk_ent (Paired.impl (fun _ _ => Sb.ent) hp) wr, by simp [c], by rw [List.length_map]; omega, fun j H8 S8 hf => ?_⟩
        rw [List.length_map] at hf
        have hj := hf.lt
        have hf' : BF.First (fun i => [-((BF.prf bs ia ib (rem.getD i 0)).natAbs : Int)]) rem.length j := hf.congr fun i hi => by
          rw [bx_map hi]
          rfl
        rw [BF.dist_go c (by omega) (by omega) st.nd hf'] at hn2
        have ej := pk_at (xs := xs) hj
        have hjr : rem.getD j 0 < bs.length := getD_lt hj wr
        obtain ⟨vj, evj, wj⟩ := ent_at hp hjr
        have ej' : (pk xs rem)[j]? = some vj := by
          rw [ej, getD_some evj]
        have Sb8 := Sb.trans S8
        refine ⟨_, rfl, _, rfl, _, rfl, _, rfl, r, _, _, vj, rfl, rfl, .inl (.inl (S8 _ _ r1)), at_of rfl ej', g, ga, gb, _, _, _, _, vj, _, rfl, S8.grp G1, Sb8.ent wj, fun H9 S9 => ?_⟩
        have Sb9 := Sb8.trans S9
        have g9 := S9 _ _ (S8 _ _ g1)
        have a9 := S9 _ _ (S8 _ _ a1)
        have b9 := S9 _ _ (S8 _ _ b1)
        have r9 := S9 _ _ (S8 _ _ r1)
        have er : (pk xs rem).take j ++ (pk xs rem).drop (j + 1) = pk xs (rem.eraseIdx j) := by
          rw [pk, ← List.map_take, ← List.map_drop, ← List.map_append, ← List.eraseIdx_eq_take_drop_succ]
        have hle : rem.length - 1 < rem.length := by omega
        have hel : (rem.eraseIdx j).length = rem.length - 1 := List.length_eraseIdx_of_lt hj
        have hem : ∀ i ∈ rem.eraseIdx j, i < 5 := fun i hi => st.hr i (List.mem_of_mem_eraseIdx hi)
        have hjm : rem.getD j 0 < 5 := by omega
        have hnd := st.nd.eraseIdx j
        have cl : j ≤ (pk xs rem).length := by omega
        have cl2 : j + 1 ≤ (pk xs rem).length := by omega
        have evx : vj = xs.getD (rem.getD j 0) .non := by
          rw [getD_some evj]
        rw [la, lb]
        by_cases ck : BF.klt (BF.gkey bs ib (rem.getD j 0)) (BF.gkey bs ia (rem.getD j 0)) = true
        · rw [if_pos (show BF.klt (gky (ib.map (BF.bx bs)) ib.length (BF.bx bs (rem.getD j 0))) (gky (ia.map (BF.bx bs)) ia.length (BF.bx bs (rem.getD j 0))) = true from ck)]
          rw [if_pos ck] at hn2
          refine ⟨g, _, 1, _, rfl, rfl, .inl (.inl g9), rfl, .inl ⟨rfl, _, .inl (.inl b9)⟩, _, rfl, _, rfl, r, _, _, vj, rfl, rfl, .inl (.inl r9), at_of rfl ej', gb, _, vj, rfl, rfl, b9, Nat.lt_of_le_of_lt (show (pk xs ib).length ≤ 5 by omega) (by decide), ?_⟩
          have S10 : Same H (upd H9 gb (.lst (pk xs ib ++ [vj]))) := Sb9.upd2 st.b0
          have r10 : upd H9 gb (.lst (pk xs ib ++ [vj])) r = some (.lst (pk xs rem)) := by rw [upd_ne st.rnb]; exact r9
          have g10 : upd H9 gb (.lst (pk xs ib ++ [vj])) g = some (.lst [.ref ga, .ref gb]) := by rw [upd_ne st.gnb]; exact g9
          have a10 : upd H9 gb (.lst (pk xs ib ++ [vj])) ga = some (.lst (pk xs ia)) := by rw [upd_ne st.anb]; exact a9
          have b10 := upd_same (H := H9) (a := gb) (o := .lst (pk xs ib ++ [vj]))
          generalize upd H9 gb (.lst (pk xs ib ++ [vj])) = H10 at *
          refine ⟨_, rfl, _, rfl, _, rfl, r, _, rfl, .inl (.inl r10), fun p1 hp1 => ?_⟩
          have T1 := Same.upd (o := .lst (cutV (pk xs rem) none (some (j : Int)))) hp1
          refine ⟨_, rfl, _, rfl, _, _, rfl, rfl, _, rfl, r, _, rfl, .inl (.inl (T1 _ _ r10)), fun p2 hp2 => ?_⟩
          have T2 := Same.upd (o := .lst (cutV (pk xs rem) (some ((j : Int) + 1)) none)) hp2
          refine ⟨p1, p2, _, _, rfl, rfl, T2 _ _ upd_same, upd_same, ?_, fun p3 hp3 => ?_⟩
          · rw [cut_lo cl, cut_hi (j := j + 1) (by omega) cl2]
            exact line_small (by rw [List.length_take, List.length_drop]; omega)
          · have T3 := Same.upd (o := .lst (cutV (pk xs rem) none (some (j : Int)) ++ cutV (pk xs rem) (some ((j : Int) + 1)) none)) hp3
            have TT := (T1.trans T2).trans T3
            have h3 : H10 p3 = none := (T1.trans T2).free hp3
            refine ⟨rem.length - 1, hle, p3, ia, ib ++ [rem.getD j 0], rem.eraseIdx j, _, _, rfl, hel.symm, ?_⟩
            refine ⟨S10.trans TT, st.g0, st.a0, st.b0, (S10.trans (T1.trans T2)).free hp3, TT _ _ g10, TT _ _ a10, ?_, ?_, st.gna, st.gnb, st.anb, (ne_of_none g10 h3).symm, (ne_of_none a10 h3).symm, (ne_of_none b10 h3).symm, st.ha, ?_, hem, st.na, by simp, hnd, by rw [hel, List.length_append, List.length_singleton]; omega, n, by omega, hn2⟩
            · rw [TT _ _ b10, evx, pk, pk, List.map_append]
              rfl
            · rw [upd_same, cut_lo cl, cut_hi (j := j + 1) (by omega) cl2, er]
            · exact fun i hi => (List.mem_append.mp hi).elim (st.hb i) fun z => by rw [List.mem_singleton.mp z]; exact hjm
        · rw [if_neg (show ¬ BF.klt (gky (ib.map (BF.bx bs)) ib.length (BF.bx bs (rem.getD j 0))) (gky (ia.map (BF.bx bs)) ia.length (BF.bx bs (rem.getD j 0))) = true from ck)]
          rw [if_neg ck] at hn2
          refine ⟨g, _, 0, _, rfl, rfl, .inl (.inl g9), rfl, .inl ⟨rfl, _, .inl (.inl a9)⟩, _, rfl, _, rfl, r, _, _, vj, rfl, rfl, .inl (.inl r9), at_of rfl ej', ga, _, vj, rfl, rfl, a9, Nat.lt_of_le_of_lt (show (pk xs ia).length ≤ 5 by omega) (by decide), ?_⟩
          have S10 : Same H (upd H9 ga (.lst (pk xs ia ++ [vj]))) := Sb9.upd2 st.a0
          have r10 : upd H9 ga (.lst (pk xs ia ++ [vj])) r = some (.lst (pk xs rem)) := by rw [upd_ne st.rna]; exact r9
          have g10 : upd H9 ga (.lst (pk xs ia ++ [vj])) g = some (.lst [.ref ga, .ref gb]) := by rw [upd_ne st.gna]; exact g9
          have b10 : upd H9 ga (.lst (pk xs ia ++ [vj])) gb = some (.lst (pk xs ib)) := by rw [upd_ne st.anb.symm]; exact b9
          have a10 := upd_same (H := H9) (a := ga) (o := .lst (pk xs ia ++ [vj]))
          generalize upd H9 ga (.lst (pk xs ia ++ [vj])) = H10 at *
          refine ⟨_, rfl, _, rfl, _, rfl, r, _, rfl, .inl (.inl r10), fun p1 hp1 => ?_⟩
          have T1 := Same.upd (o := .lst (cutV (pk xs rem) none (some (j : Int)))) hp1
          refine ⟨_, rfl, _, rfl, _, _, rfl, rfl, _, rfl, r, _, rfl, .inl (.inl (T1 _ _ r10)), fun p2 hp2 => ?_⟩
          have T2 := Same.upd (o := .lst (cutV (pk xs rem) (some ((j : Int) + 1)) none)) hp2
          refine ⟨p1, p2, _, _, rfl, rfl, T2 _ _ upd_same, upd_same, ?_, fun p3 hp3 => ?_⟩
          · rw [cut_lo cl, cut_hi (j := j + 1) (by omega) cl2]
            exact line_small (by rw [List.length_take, List.length_drop]; omega)
          · have T3 := Same.upd (o := .lst (cutV (pk xs rem) none (some (j : Int)) ++ cutV (pk xs rem) (some ((j : Int) + 1)) none)) hp3
            have TT := (T1.trans T2).trans T3
            have h3 : H10 p3 = none := (T1.trans T2).free hp3
            refine ⟨rem.length - 1, hle, p3, ia ++ [rem.getD j 0], ib, rem.eraseIdx j, _, _, rfl, hel.symm, ?_⟩
            refine ⟨S10.trans TT, st.g0, st.a0, st.b0, (S10.trans (T1.trans T2)).free hp3, TT _ _ g10, ?_, TT _ _ b10, ?_, st.gna, st.gnb, st.anb, (ne_of_none g10 h3).symm, (ne_of_none a10 h3).symm, (ne_of_none b10 h3).symm, ?_, st.hb, hem, by simp, st.nb, hnd, by rw [hel, List.length_append, List.length_singleton]; omega, n, by omega, hn2⟩
            · rw [TT _ _ a10, evx, pk, pk, List.map_append]
              rfl
            · rw [upd_same, cut_lo cl, cut_hi (j := j + 1) (by omega) cl2, er]
            · exact fun i hi => (List.mem_append.mp hi).elim (st.ha i) fun z => by rw [List.mem_singleton.mp z]; exact hjm
end
end BFW
namespace BFW
open PySem PySem.Spec PyProof.Rows L2 BFH
open Kvg6 (Box Item)
open BF (BoxOk ItOk)
section
variable {P : Program} {w : World} {K : PySem.W.Frag} {mg : Str → Option Value} {base : Heap}
/-- the groups of which nodes are made -/
def grps (xs : List V) (bs : List Box) : List (List V × List Box) :=
  if xs.length ≤ 4 then [(xs, bs)] else [(BF.pick xs (Kvg6.splitIndices bs).1, BF.pick bs (Kvg6.splitIndices bs).1), (BF.pick xs (Kvg6.splitIndices bs).2, BF.pick bs (Kvg6.splitIndices bs).2)]
def spNW (K : PySem.W.Frag) : Sp := fun vs H Q _ => ∃ (l : Int) (e : Addr) (xs : List V) (bs : List Box), vs = [.int l, .ref e] ∧ H e = some (.lst xs) ∧ Paired (Ent K H) xs bs ∧ xs.length ≤ 5 ∧
  ∀ q us H', H q = none → Same H H' → H' q = some (.lst us) → Paired (fun v (g : List V × List Box) => NodeV K H' l g.1 g.2 v) us (grps xs bs) → Q (.ref q) H'
theorem pick_len_le {α : Type} (l : List α) (ix : List Nat) : (BF.pick l ix).length ≤ ix.length := List.length_filterMap_le ..
theorem sc_nodes_with : FnScope ["level", "entries", "group"] ["level", "entries"] (defScope s_nodes_with) := ⟨rfl, rfl, rfl, by decide +kernel, rfl, by decide +kernel, by decide +kernel⟩
theorem k_nodes_with (T : Tx K mg) : Kn P w K mg base "nodes_with" 7 ["level", "entries"] (spNW K) := by
  have F := T.fn1 29 (x := "nodes_with") (st := s_nodes_with) rfl
  have sc := sc_nodes_with
  obtain ⟨tMOST_ENTRIES, gMOST_ENTRIES⟩ := T.int 114 (x := "MOST_ENTRIES") rfl
  let st : Stmt := s_nodes_with
  let nn : List Str := ["level", "entries", "group"]
  refine ⟨F.ok sc (fun vs H Q E h => ?_) (fun cdv A outer s H vs Q E hr h => ?_), F.binds fun _ _ _ _ _ _ us hl => match us, hl with | [_, _], _ => rfl, F.kp, T.glo 26⟩

  · obtain ⟨l, e, xs, bs, rfl, _⟩ := h
    rfl
  obtain ⟨l, e, xs, bs, rfl, he, hp, h5, k⟩ := h
  refine ⟨_, (pss_cons (ps_if (pt_cmpR op_le (pe_callB call_len_seq (by rfl) (T.free 91) PySem.boot_len (pa_cons (pv 1) pa_nil)) (pe_glob (v := .int (4)) rfl gMOST_ENTRIES ⟨_, rfl⟩) (nomark _)) (pss_one (ps_ret (pe_lst (pa_cons (km (k_Node_init T) hr (pa_cons (pv 0) (pa_cons (pv 1) pa_nil))) pa_nil)))) pss_nil)
      (pss_one (ps_ret (pe_lc (own := [("group", 2)]) (g := gName 2) (tt := tYes) rfl sc.nd (pi_list (kc (k_split T) hr (pa_cons (pv 1) pa_nil))) (blkOk_by (N := nn) (sc := defScope st) (by decide +kernel)) (fun _ _ _ _ _ => (pg_name (i := 2) sc.nd rfl (Or.inl rfl))) (fun _ _ _ _ _ => pts_nil) (fun _ _ _ _ _ => (kmK (K := K) rfl (k_Node_init T) hr (pa_cons (pv 0) (pa_cons (pv 2) pa_nil)))))))), ?_⟩
  refine ⟨_, rfl, e, xs, rfl, .inl (.inl (.inl he)), _, _, rfl, rfl, _, rfl, ?_⟩
  by_cases c : xs.length ≤ 4
  · rw [decide_eq_true (by omega)]
    refine iteT ⟨_, rfl, _, rfl, ?_⟩
    refine make_node (Same.refl _) he hp (by omega) fun x dx bv H1 hx S h1 h2 => ⟨by show 1 ≤ sizeLine; decide, fun q hq => ?_⟩
    have Sq := Same.upd (o := .lst [.ref x]) hq
    refine k q _ _ (S.free hq) (S.trans Sq) upd_same ?_
    unfold grps
    rw [if_pos c]
    exact .cons (Sq.node (node_new S he hp h1 h2)) .nil
  · rw [decide_eq_false (by omega)]
    have hl5 : xs.length = 5 := by omega
    have hb5 : bs.length = 5 := by rw [← hp.len]; exact hl5
    refine iteF ⟨_, rfl, e, xs, bs, rfl, he, hp, hb5, fun g ga gb H1 g0 a0 b0 gna gnb anb S1 hg ha hb => ?_⟩
    refine ⟨g, rfl, ⟨_, .inl (.inl hg)⟩, ?_⟩
    have pa : Paired (Ent K H1) (BF.pick xs (Kvg6.splitIndices bs).1) (BF.pick bs (Kvg6.splitIndices bs).1) := Paired.pick (Paired.impl (fun _ _ => S1.ent) hp) _
    have pb : Paired (Ent K H1) (BF.pick xs (Kvg6.splitIndices bs).2) (BF.pick bs (Kvg6.splitIndices bs).2) := Paired.pick (Paired.impl (fun _ _ => S1.ent) hp) _
    obtain ⟨_, ⟨_, la⟩, _, lb⟩ := BF.split_all hb5
    have la' := pick_len_le xs (Kvg6.splitIndices bs).1
    have lb' := pick_len_le xs (Kvg6.splitIndices bs).2
    refine lc_li (xs := [.ref ga, .ref gb]) (R0 := fun u (z : Addr × List V × List Box) => u = .ref z.1 ∧ H1 z.1 = some (.lst z.2.1) ∧ Paired (Ent K H1) z.2.1 z.2.2 ∧ z.2.1.length ≤ 100) [(ga, BF.pick xs (Kvg6.splitIndices bs).1, BF.pick bs (Kvg6.splitIndices bs).1), (gb, BF.pick xs (Kvg6.splitIndices bs).2, BF.pick bs (Kvg6.splitIndices bs).2)] (fun _ => true) (fun H' u z => NodeV K H' l z.2.1 z.2.2 u)
      (.cons ⟨rfl, ha, pa, Nat.le_trans la' (by omega)⟩ (.cons ⟨rfl, hb, pb, Nat.le_trans lb' (by omega)⟩ .nil)) ?_ ?_ ?_ ?_ ?_ ?_ ?_
    · exact fun H2 S => .inl (.inl (S _ _ hg))
    · show 2 < sizeLine
      decide
    · exact fun _ _ _ _ S h => S.node h
    · exact fun _ => rfl
    · exact fun x z H1 _ _ _ k hk => hk H1 (Same.refl H1)
    · rintro x ⟨z1, z2, z3⟩ H2 D acc ⟨rfl, y1, y2, y3⟩ _ _ S S' hD k hk
      refine ⟨_, rfl, _, rfl, ?_⟩
      refine make_node S y1 y2 y3 fun x dx bv H3 hx S3 h1 h2 => hk _ _ S3 ?_
      refine node_off (S'.trans (Same.off S3)) y1 y2 h1 h2 (S3 _ _ hD)
    · intro D H' ys hD S hl2 hys
      refine k D ys _ (S1.free hD) (S1.trans S) hl2 ?_
      unfold grps
      rw [if_neg c]
      cases hys with
      | cons y1 hys =>
        cases hys with
        | cons y2 hys =>
          cases hys
          exact .cons (off_same.node y1) (.cons (off_same.node y2) .nil)
theorem first_of : ∀ {ks : List (List Int)} {k : List Int}, k ∈ ks → ∃ j : Nat, ks[j]? = some k ∧ ∀ m : Nat, m < j → ks[m]? ≠ some k
  | [], _, h => nomatch h
  | x :: r, k, h => by
    by_cases c : x = k
    · exact ⟨0, by rw [c]; rfl, fun m hm => by omega⟩
    · obtain ⟨j, h1, h2⟩ := first_of (ks := r) (k := k) (by
        rcases List.mem_cons.mp h with e | e
        · exact absurd e.symm c
        · exact e)
      refine ⟨j + 1, h1, fun m hm => ?_⟩
      cases m with
      | zero =>
        intro e
        exact c (Option.some.inj e)
      | succ m => exact h2 m (by omega)
def spChosen (K : PySem.W.Frag) : Sp := fun vs H Q _ => ∃ (p dx e q : Addr) (l : Int) (bv : V) (xs : List V) (bs : List Box) (b : Box), vs = [.ref p, .ref q] ∧ H p = some (.ins (He.ga K "Node") dx (ndF l e bv)) ∧ H e = some (.lst xs) ∧ Paired (Ent K H) xs bs ∧ bs ≠ [] ∧ xs.length ≤ 100 ∧ BoxAt H q b ∧
  ∀ H', Same H H' → Q (.int (Kvg6.chooseChild bs b : Nat)) H'
theorem sc_chosen : FnScope ["node", "box", "keys", "child"] ["node", "box"] (defScope s_chosen) := ⟨rfl, rfl, rfl, by decide +kernel, rfl, by decide +kernel, by decide +kernel⟩
theorem k_chosen (T : Tx K mg) : Kn P w K mg base "chosen" 3 ["node", "box"] (spChosen K) := by
  have F := T.fn1 30 (x := "chosen") (st := s_chosen) rfl
  have sc := sc_chosen
  let st : Stmt := s_chosen
  let nn : List Str := ["node", "box", "keys", "child"]
  refine ⟨F.ok sc (fun vs H Q E h => ?_) (fun cdv A outer s H vs Q E hr h => ?_), F.binds fun _ _ _ _ _ _ us hl => match us, hl with | [_, _], _ => rfl, F.kp, T.glo 27⟩

  · obtain ⟨p, dx, e, q, l, bv, xs, bs, b, rfl, _⟩ := h
    rfl
  obtain ⟨p, dx, e, q, l, bv, xs, bs, b, rfl, hpn, he, hp, hne, hl, hq, k⟩ := h
  refine ⟨_, (pss_cons (ps_setLc (i := 2) (own := [("child", 3)]) (g := gName 3) (tt := tYes) rfl sc.nd rfl rfl (sw_true rfl rfl rfl (by decide +kernel)) (pi_list (pe_fld (pv 0) rfl)) (blkOk_by (N := nn) (sc := defScope st) (by decide +kernel)) (fun _ _ _ _ _ => (pg_name (i := 3) sc.nd rfl (Or.inl rfl))) (fun _ _ _ _ _ => pts_nil) (fun _ _ _ _ _ => (pe_tup (pa_cons (kc (k_enlargement T) hr (pa_cons (pe_fldK (K := K) rfl (pv 3) rfl) (pa_cons (pv 1) pa_nil))) (pa_cons (kc (k_area T) hr (pa_cons (pe_fldK (K := K) rfl (pv 3) rfl) pa_nil)) pa_nil)))))
      (pss_one (ps_ret (pe_bm PySem.F.plainAttrs_list PySem.F.slot_list_index PySem.F.type_list_index (mt_indexD hr.units65) (pv 2) (pa_cons (pe_callB (cr_minT hr) (by rfl) (T.free 93) boot_min (pa_cons (pv 2) pa_nil)) pa_nil))))), ?_⟩
  refine ⟨_, rfl, _, _, _, _, _, rfl, hpn, (kcl_Node T).cl, no_Node_entries T, ndF_entries, e, rfl, ⟨_, .inl (.inl he)⟩, ?_⟩
  refine lc_li (R0 := Ent K H) bs (fun _ => true) (fun H' u (z : Box) => KeyT H' u [Kvg6.enlargement z b, z.area]) hp ?_ ?_ ?_ ?_ ?_ ?_ ?_
  · exact fun H2 S => .inl (.inl (S _ _ he))
  · exact Nat.lt_of_le_of_lt hl (by decide)
  · exact fun _ _ _ _ S => S.keyT
  · exact fun _ => rfl
  · exact fun x z H1 _ _ _ k hk => hk H1 (Same.refl H1)
  · intro x z H1 D acc hx _ _ S S' hD k hk
    obtain ⟨a1, C1, d1, f1, q1, rfl, h1, c1, n1, l1, b1⟩ := ent_fld T hx
    refine ⟨_, rfl, _, _, _, _, _, rfl, S _ _ h1, c1, n1, l1, _, rfl, q1, q, z, b, rfl, S.box b1, S.box hq, fun H2 S2 => ?_⟩
    have T2 := S.trans S2
    refine ⟨_, rfl, _, _, _, _, _, rfl, T2 _ _ h1, c1, n1, l1, q1, z, rfl, T2.box b1, by show 2 ≤ sizeLine; decide, fun r hr0 => ?_⟩
    refine hk _ _ (S2.upd3 hr0) ⟨r, rfl, off_ne (o := .tup _) upd_same (u := .lst acc) ?_ (fun z => nomatch z)⟩
    rw [upd_ne (ne_of_none (S2 _ _ hD) hr0)]
    exact S2 _ _ hD
  · intro D H' ys hD S hl2 hys
    rw [show bs.filter (fun _ => true) = bs from List.filter_eq_self.mpr fun _ _ => rfl] at hys
    have hks : Paired (KeyT H') ys (bs.map fun z => [Kvg6.enlargement z b, z.area]) := Paired.mapR (Paired.impl (fun _ _ => off_same.keyT) hys)
    refine ⟨_, rfl, .inl ⟨rfl, _, .inl (.inl hl2)⟩, _, rfl, D, ys, _, rfl, .inl (.inl hl2), hks, by simp [hne], fun v kk hv hkv hmem hleast => ?_⟩
    obtain ⟨j, hj, hbef⟩ := first_of hmem
    have hjl : j < bs.length := by
      have := (List.getElem?_eq_some_iff.mp hj).1
      rwa [List.length_map] at this
    have fj : ∀ m, m < bs.length → (bs.map fun z => [Kvg6.enlargement z b, z.area])[m]? = some [Kvg6.enlargement (BF.bx bs m) b, (BF.bx bs m).area] := fun m hm => by
      rw [List.getElem?_map, bx_at hm]
      rfl
    have ekk : kk = [Kvg6.enlargement (BF.bx bs j) b, (BF.bx bs j).area] := by
      rw [fj j hjl] at hj
      exact (Option.some.inj hj).symm
    have hch : Kvg6.chooseChild bs b = j := by
      refine BF.choose_eq ⟨hjl, fun m hm => ?_, fun m hm => ?_⟩
      · have hm' : m < bs.length := by omega
        have h1 := hbef m hm
        rw [fj m hm'] at h1
        have h2 := hleast _ (List.mem_of_getElem? (fj m hm'))
        rw [← ekk]
        rcases BF.klt_total kk [Kvg6.enlargement (BF.bx bs m) b, (BF.bx bs m).area] with h3 | h3 | h3
        · exact h3
        · exact absurd (by rw [h3]) h1
        · rw [h2] at h3
          cases h3
      · rw [← ekk]
        exact hleast _ (List.mem_of_getElem? (fj m hm))
    refine ⟨D, v, tD kk, (bs.map fun z => [Kvg6.enlargement z b, z.area]).map tD, j, tD kk, rfl, rfl, .lst (.inl (.inl hl2)) (keys_dp hks), hkv.dp, tDs_shaped _, tD_shaped _, by rw [List.getElem?_map, hj]; rfl, by rw [tD_eqv]; exact decide_eq_true rfl, ?_, ?_⟩
    · intro m z' hm hz'
      rw [List.getElem?_map] at hz'
      cases e1 : (bs.map fun z => [Kvg6.enlargement z b, z.area])[m]? with
      | none =>
        rw [e1] at hz'
        cases hz'
      | some km =>
        rw [e1] at hz'
        have e2 : tD km = z' := Option.some.inj hz'
        rw [← e2, tD_eqv]
        exact decide_eq_false fun z => hbef m hm (by rw [e1, z])
    · rw [← hch]
      exact k H' S
/-! ### insertion -/
theorem full_ent {H : Hp} {n : Nat} {v : V} {t : Kvg6.Tree} (h : TreeV K H n v t) (hf : BF.Full n t) (hn : n ≤ 15) : Ent K H v t.box := by
  obtain ⟨p, dx, e, bv, xs, rfl, ta⟩ := h.at_
  refine ta.ent hn fun z => ?_
  subst z
  have hk := ta.kids
  cases n with
  | zero =>
    obtain ⟨items, rfl⟩ := hf.bal.leaf
    obtain ⟨_, hk⟩ := hk
    cases hk
    exact absurd hf.1 (by decide)
  | succ n =>
    obtain ⟨ch, rfl, _⟩ := hf.bal.node
    obtain ⟨m, _, hk⟩ := hk
    cases hk
    exact absurd hf.1.1 (by decide)
theorem fulls_ent {H : Hp} {n : Nat} (hn : n ≤ 15) : ∀ {vs : List V} {ts : List Kvg6.Tree}, Paired (TreeV K H n) vs ts → (∀ t ∈ ts, BF.Full n t) → Paired (Ent K H) vs (ts.map Kvg6.Tree.box)
  | _, _, .nil, _ => .nil
  | _, _, .cons h t, hf => .cons (full_ent h (hf _ List.mem_cons_self) hn) (fulls_ent hn t fun x hx => hf x (List.mem_cons_of_mem _ hx))
/-- the nodes of parts -/
theorem parts_tree {α : Type} {H : Hp} {l : Int} {n : Nat} {box : α → Box} {mk : List α → Kvg6.Tree} {R : V → α → Prop} {xs us : List V} {ts : List α} (hp : Paired R xs ts) (hl : xs.length ≤ 5)
    (hmk : ∀ ys zs v, zs.length ≤ 4 → NodeV K H l ys (zs.map box) v → Paired R ys zs → TreeV K H n v (mk zs))
    (hu : Paired (fun v (g : List V × List Box) => NodeV K H l g.1 g.2 v) us (grps xs (ts.map box))) : Paired (TreeV K H n) us (BF.parts box mk ts) := by
  unfold grps at hu
  unfold BF.parts
  have e := hp.len
  by_cases c : xs.length ≤ 4
  · rw [if_pos c] at hu
    rw [if_pos (by omega)]
    cases hu with
    | cons h1 h2 =>
      cases h2
      exact .cons (hmk _ _ _ (by omega) h1 hp) .nil
  · rw [if_neg c] at hu
    rw [if_neg (by omega)]
    have ok := BF.splitList_ok box (l := ts) (by omega)
    rw [BF.splitList_eq] at ok ⊢
    cases hu with
    | cons h1 h2 =>
      cases h2 with
      | cons h2 h3 =>
        cases h3
        rw [BF.pick_map] at h1
        rw [BF.pick_map] at h2
        exact .cons (hmk _ _ _ ok.la.2 h1 (Paired.pick hp _)) (.cons (hmk _ _ _ ok.lb.2 h2 (Paired.pick hp _)) .nil)
def spIns (K : PySem.W.Frag) (n : Nat) : Sp := fun vs H Q _ => ∃ (m : Nat) (v vi : V) (t : Kvg6.Tree) (it : Item), m < n ∧ m ≤ 5 ∧ vs = [v, vi] ∧ TreeV K H m v t ∧ BF.Root m t ∧ ItemAt K H vi it ∧
  ∀ q us H', H q = none → Same H H' → H' q = some (.lst us) → Paired (TreeV K H' m) us (Kvg6.insertInto m t it) → Q (.ref q) H'
theorem zero_inserted_below {vs : List V} {H : Hp} {Q : VK} {E : XK} (h : spIns K 0 vs H Q E) : False := by
  obtain ⟨m, v, vi, t, it, h1, _⟩ := h
  omega
theorem sc_inserted_below : FnScope ["node", "item", "index", "parts"] ["node", "item"] (defScope s_inserted_below) := ⟨rfl, rfl, rfl, by decide +kernel, rfl, by decide +kernel, by decide +kernel⟩
theorem n_inserted_below (T : Tx K mg) : ∀ n : Nat, Kn P w K mg base "inserted_below" (n + 8) ["node", "item"] (spIns K n)
  | 0 => by
    have F := T.fn1 32 (x := "inserted_below") (st := s_inserted_below) rfl
    exact ⟨⟨fun _ _ _ _ h => (zero_inserted_below h).elim, fun _ _ _ _ _ _ _ _ _ _ _ _ _ h => (zero_inserted_below h).elim⟩, F.binds fun _ _ _ _ _ _ us hl => match us, hl with | [_, _], _ => rfl, F.kp, T.glo 29⟩
  | n + 1 => by
    have ih : Kn P w K mg base "inserted_below" (n + 8) ["node", "item"] (spIns K n) := n_inserted_below T n
    have F := T.fn1 32 (x := "inserted_below") (st := s_inserted_below) rfl
    have sc := sc_inserted_below
    let st : Stmt := s_inserted_below
    let nn : List Str := ["node", "item", "index", "parts"]
    refine ⟨F.ok sc (fun vs H Q E h => ?_) (fun cdv A outer s H vs Q E hr h => ?_), F.binds fun _ _ _ _ _ _ us hl => match us, hl with | [_, _], _ => rfl, F.kp, T.glo 29⟩

    · obtain ⟨m, v, vi, t, it, _, _, rfl, _⟩ := h
      rfl
    obtain ⟨m, v, vi, t, it, hm, h5, rfl, ht, hroot, hi, k⟩ := h
    refine ⟨_, (pss_cons (ps_if (pt_cmpR op_eq (pe_fld (pv 0) rfl) pe_int (nomark _)) (pss_one (ps_ret (kc (k_nodes_with T) hr (pa_cons pe_int (pa_cons (pe_op op_cat (pe_fld (pv 0) rfl) (pe_lst (pa_cons (pv 1) pa_nil))) pa_nil)) (hjk := by omega)))) pss_nil)
      (pss_cons (ps_set (i := 2) sc.nd rfl (Or.inl rfl) (kc (k_chosen T) hr (pa_cons (pv 0) (pa_cons (pe_fld (pv 1) rfl) pa_nil)) (hjk := by omega)))
      (pss_cons (ps_set (i := 3) sc.nd rfl (Or.inl rfl) (kc ih hr (pa_cons (pe_ix ix_list (pe_fld (pv 0) rfl) (pv 2) (fun _ _ => rfl)) (pa_cons (pv 1) pa_nil)) (hjk := by omega)))
      (pss_one (ps_ret (kc (k_nodes_with T) hr (pa_cons (pe_fld (pv 0) rfl) (pa_cons (pe_op op_cat (pe_op op_cat (pe_slice sl_list (pe_fld (pv 0) rfl) po_none (po_some (pv 2))) (pv 3)) (pe_slice sl_list (pe_fld (pv 0) rfl) (po_some (pe_op op_add (pv 2) pe_int)) po_none)) pa_nil)) (hjk := by omega))))))), ?_⟩
    obtain ⟨p, dx, e, bv, xs, rfl, ta⟩ := ht.at_
    have hk := ta.kids
    have h4 := ta.four
    refine ⟨_, rfl, _, _, _, _, _, rfl, ta.node, (kcl_Node T).cl, no_Node_level T, ndF_level, rfl, _, rfl, ?_⟩
    cases m with
    | zero =>
      obtain ⟨items, rfl⟩ := hroot.bal.leaf
      obtain ⟨_, hk⟩ := hk
      rw [decide_eq_true (by rfl)]
      refine iteT ⟨_, rfl, _, _, _, _, _, rfl, ta.node, (kcl_Node T).cl, no_Node_entries T, ndF_entries, _, rfl, by show 1 ≤ sizeLine; decide, fun l1 hl1 => ?_⟩
      have S1 := Same.upd (o := .lst [vi]) hl1
      refine ⟨e, l1, xs, [vi], rfl, rfl, S1 _ _ ta.list, upd_same, line_small (by show xs.length + 1 ≤ _; omega), fun l2 hl2 => ?_⟩
      have S2 := S1.upd3 (o := .lst (xs ++ [vi])) hl2
      have hpi : Paired (ItemAt K (upd (upd H l1 (.lst [vi])) l2 (.lst (xs ++ [vi])))) (xs ++ [vi]) (items ++ [it]) := Paired.app (Paired.impl (fun _ _ => S2.item) hk) (.cons (S2.item hi) .nil)
      refine ⟨1, l2, xs ++ [vi], (items ++ [it]).map Item.box, rfl, upd_same, Paired.mapR (Paired.impl (fun _ _ h => h.ent) hpi), by rw [List.length_append, List.length_singleton]; omega, fun q us H3 hq S3 hqs hus => ?_⟩
      refine k q us H3 (S2.free hq) (S2.trans S3) hqs ?_
      rw [BF.ins_leaf]
      exact parts_tree (Paired.impl (fun _ _ => S3.item) hpi) (by rw [List.length_append, List.length_singleton]; omega) (fun ys zs v h1 h2 h3 => ⟨h1, ys, h2, h3⟩) hus
    | succ m =>
      obtain ⟨ch, rfl, _⟩ := hroot.bal.node
      obtain ⟨m', e1, hk⟩ := hk
      obtain rfl : m' = m := by omega
      obtain ⟨⟨r2, r4⟩, hfull⟩ := hroot
      rw [decide_eq_false (fun z => by injection z with z; omega)]
      have hi' := hi
      obtain ⟨ia, idx, iq, rfl, hi1, hi2⟩ := hi'
      have hbs : Paired (Ent K H) xs (ch.map Kvg6.Tree.box) := ta.ents
      have hcl : Kvg6.chooseChild (ch.map Kvg6.Tree.box) it.box < ch.length := by
        have := BF.choose_lt (boxes := ch.map Kvg6.Tree.box) (b := it.box) (by rw [List.length_map]; omega)
        rwa [List.length_map] at this
      refine iteF ⟨_, rfl, _, rfl, _, _, _, _, _, rfl, hi1, (kcl_Item T).cl, no_Item_box T, itF_box, p, dx, e, iq, _, bv, xs, _, _, rfl, ta.node, ta.list, hbs, by intro z; rw [List.map_eq_nil_iff] at z; rw [z] at r2; exact absurd r2 (by decide), by omega, hi2, fun H1 S1 => ?_⟩
      have hc : ch[BF.pickCh ch it.box]? = some (ch[BF.pickCh ch it.box]'hcl) := List.getElem?_eq_getElem hcl
      generalize ch[BF.pickCh ch it.box]'hcl = c at hc
      obtain ⟨x, hx, hxc⟩ := hk.get2 hc
      have hcf := hfull c (List.mem_of_getElem? hc)
      refine ⟨_, rfl, _, _, _, _, _, rfl, S1 _ _ ta.node, (kcl_Node T).cl, no_Node_entries T, ndF_entries, _, rfl, e, xs, _, x, rfl, rfl, .inl (.inl (S1 _ _ ta.list)), at_of rfl hx, _, rfl, m', x, _, c, it, by omega, by omega, rfl, S1.tree hxc, hcf.root, S1.item hi, fun q us H2 hq S2 hqs hus => ?_⟩
      have S12 := S1.trans S2
      refine ⟨_, rfl, _, _, _, _, _, rfl, S12 _ _ ta.node, (kcl_Node T).cl, no_Node_level T, ndF_level, ?_⟩
      have ok := BF.ins_ok m' c it hcf.root
      have hul := hus.len
      have hi4 : BF.pickCh ch it.box ≤ xs.length := by
        have := hk.len
        have hcl' : BF.pickCh ch it.box < ch.length := hcl
        omega
      have hi5 : BF.pickCh ch it.box + 1 ≤ xs.length := by
        have := hk.len
        have hcl' : BF.pickCh ch it.box < ch.length := hcl
        omega
      have hu2 : us.length ≤ 2 := by
        rcases ok.two with z | ⟨z, _⟩ <;> omega
      refine ⟨_, rfl, _, _, _, _, _, rfl, S12 _ _ ta.node, (kcl_Node T).cl, no_Node_entries T, ndF_entries, _, rfl, _, rfl, e, xs, rfl, .inl (.inl (S12 _ _ ta.list)), fun p1 hp1 => ?_⟩
      rw [cut_lo hi4]
      have S3 := S12.upd3 (o := .lst (xs.take (BF.pickCh ch it.box))) hp1
      have q1 : upd H2 p1 (.lst (xs.take (BF.pickCh ch it.box))) q = some (.lst us) := by rw [upd_ne (ne_of_none hqs hp1)]; exact hqs
      refine ⟨_, rfl, p1, q, _, us, rfl, rfl, upd_same, q1, line_small (by rw [List.length_take]; omega), fun p2 hp2 => ?_⟩
      have S4 := S3.upd3 (o := .lst (xs.take (BF.pickCh ch it.box) ++ us)) hp2
      have Sx : Same H2 (upd (upd H2 p1 (.lst (xs.take (BF.pickCh ch it.box)))) p2 (.lst (xs.take (BF.pickCh ch it.box) ++ us))) := (Same.upd hp1).upd3 hp2
      refine ⟨_, rfl, _, _, _, _, _, rfl, S4 _ _ ta.node, (kcl_Node T).cl, no_Node_entries T, ndF_entries, _, rfl, _, _, rfl, rfl, _, rfl, e, xs, rfl, .inl (.inl (S4 _ _ ta.list)), fun p3 hp3 => ?_⟩
      rw [cut_hi (j := BF.pickCh ch it.box + 1) (by show ((BF.pickCh ch it.box : Nat) : Int) + 1 = _; omega) hi5]
      have S5 := S4.upd3 (o := .lst (xs.drop (BF.pickCh ch it.box + 1))) hp3
      have Sy := Sx.upd3 (o := .lst (xs.drop (BF.pickCh ch it.box + 1))) hp3
      refine ⟨p2, p3, _, _, rfl, rfl, by rw [upd_ne (ne_of_none (upd_same) hp3)]; exact upd_same, upd_same, line_small (by rw [List.length_append, List.length_take, List.length_drop]; omega), fun p4 hp4 => ?_⟩
      have S6 := S5.upd3 (o := .lst (xs.take (BF.pickCh ch it.box) ++ us ++ xs.drop (BF.pickCh ch it.box + 1))) hp4
      have Sz := Sy.upd3 (o := .lst (xs.take (BF.pickCh ch it.box) ++ us ++ xs.drop (BF.pickCh ch it.box + 1))) hp4
      have L6 := upd_same (H := upd (upd (upd H2 p1 (.lst (xs.take (BF.pickCh ch it.box)))) p2 (.lst (xs.take (BF.pickCh ch it.box) ++ us))) p3 (.lst (xs.drop (BF.pickCh ch it.box + 1)))) (a := p4) (o := .lst (xs.take (BF.pickCh ch it.box) ++ us ++ xs.drop (BF.pickCh ch it.box + 1)))
      generalize upd (upd (upd (upd H2 p1 (.lst (xs.take (BF.pickCh ch it.box)))) p2 (.lst (xs.take (BF.pickCh ch it.box) ++ us))) p3 (.lst (xs.drop (BF.pickCh ch it.box + 1)))) p4 (.lst (xs.take (BF.pickCh ch it.box) ++ us ++ xs.drop (BF.pickCh ch it.box + 1))) = H6 at *
      have hk6 := Paired.impl (fun _ _ => S6.tree (n := m')) hk
      have hpt : Paired (TreeV K H6 m') (xs.take (BF.pickCh ch it.box) ++ us ++ xs.drop (BF.pickCh ch it.box + 1)) (ch.take (BF.pickCh ch it.box) ++ Kvg6.insertInto m' c it ++ ch.drop (BF.pickCh ch it.box + 1)) :=
        Paired.app (Paired.app (Paired.takeP _ hk6) (Paired.impl (fun _ _ => Sz.tree) hus)) (Paired.dropP _ hk6)
      have hall : ∀ t ∈ ch.take (BF.pickCh ch it.box) ++ Kvg6.insertInto m' c it ++ ch.drop (BF.pickCh ch it.box + 1), BF.Full m' t := fun t h => by
        rcases List.mem_append.mp h with h | h
        · rcases List.mem_append.mp h with h | h
          · exact hfull t (List.mem_of_mem_take h)
          · exact ok.full hcf t h
        · exact hfull t (List.mem_of_mem_drop h)
      have hlen5 : (xs.take (BF.pickCh ch it.box) ++ us ++ xs.drop (BF.pickCh ch it.box + 1)).length ≤ 5 := by
        rw [List.length_append, List.length_append, List.length_take, List.length_drop]
        omega
      refine ⟨_, p4, _, _, rfl, L6, fulls_ent (by omega) hpt hall, hlen5, fun q' us' H7 hq' S7 hqs' hus' => ?_⟩
      refine k q' us' H7 (S6.free hq') (S6.trans S7) hqs' ?_
      rw [BF.ins_node_at hc]
      refine parts_tree (Paired.impl (fun _ _ => S7.tree) hpt) hlen5 (fun ys zs v h1 h2 h3 => ⟨h1, ys, ?_, h3⟩) hus'
      rw [show ((m' : Int) + 2) = (((m' + 1 : Nat) : Int) + 1) by omega]
      exact h2
theorem k_inserted_below (T : Tx K mg) : Kn P w K mg base "inserted_below" 14 ["node", "item"] (spIns K 6) := n_inserted_below T 6
theorem len_two {α : Type} : ∀ {l : List α}, l.length = 2 → ∃ a b, l = [a, b]
  | [a, b], _ => ⟨a, b, rfl⟩
  | [], h => by simp at h
  | [_], h => by simp at h
  | _ :: _ :: _ :: _, h => by simp at h
def spWI (K : PySem.W.Frag) : Sp := fun vs H Q _ => ∃ (m : Nat) (v vi : V) (t : Kvg6.Tree) (it : Item), m ≤ 5 ∧ vs = [v, vi] ∧ TreeV K H m v t ∧ BF.Root m t ∧ ItemAt K H vi it ∧
  ∀ r m' H', Same H H' → m' ≤ m + 1 → TreeV K H' m' r (BF.insAt m t it) → Q r H'
theorem sc_with_item : FnScope ["root", "item", "nodes"] ["root", "item"] (defScope s_with_item) := ⟨rfl, rfl, rfl, by decide +kernel, rfl, by decide +kernel, by decide +kernel⟩
theorem k_with_item (T : Tx K mg) : Kn P w K mg base "with_item" 15 ["root", "item"] (spWI K) := by
  have F := T.fn1 33 (x := "with_item") (st := s_with_item) rfl
  have sc := sc_with_item
  let st : Stmt := s_with_item
  let nn : List Str := ["root", "item", "nodes"]
  refine ⟨F.ok sc (fun vs H Q E h => ?_) (fun cdv A outer s H vs Q E hr h => ?_), F.binds fun _ _ _ _ _ _ us hl => match us, hl with | [_, _], _ => rfl, F.kp, T.glo 30⟩

  · obtain ⟨m, v, vi, t, it, _, rfl, _⟩ := h
    rfl
  obtain ⟨m, v, vi, t, it, h5, rfl, ht, hroot, hi, k⟩ := h
  refine ⟨_, (pss_cons (ps_set (i := 2) sc.nd rfl (Or.inl rfl) (kc (k_inserted_below T) hr (pa_cons (pv 0) (pa_cons (pv 1) pa_nil))))
      (pss_one (ps_ret (pe_ifExp (pt_cmpR op_eq (pe_callB call_len_seq (by rfl) (T.free 91) PySem.boot_len (pa_cons (pv 2) pa_nil)) pe_int (nomark _)) (pe_ix ix_list (pv 2) pe_int (fun _ _ => rfl)) (km (k_Node_init T) hr (pa_cons (pe_op op_add (pe_fld (pv 0) rfl) pe_int) (pa_cons (pv 2) pa_nil))))))), ?_⟩
  refine ⟨_, rfl, _, rfl, m, v, vi, t, it, by omega, h5, rfl, ht, hroot, hi, fun q us H1 hq S1 hqs hus => ?_⟩
  have ok := BF.ins_ok m t it hroot
  obtain ⟨p, dx, e, bv, xs, rfl, ta⟩ := ht.at_
  refine ⟨_, rfl, q, us, rfl, .inl (.inl (.inl hqs)), rfl, _, rfl, ?_⟩
  rcases ok.two with z | ⟨z, hf⟩
  · have hl1 : us.length = 1 := by rw [hus.len]; exact z
    rw [decide_eq_true (by rw [hl1]; rfl)]
    obtain ⟨t', ht'⟩ := List.length_eq_one_iff.mp z
    rw [ht'] at hus
    cases hus with
    | cons h1 h2 =>
      cases h2
      refine iteT ⟨_, rfl, q, _, 0, _, rfl, rfl, .inl (.inl hqs), rfl, k _ m H1 S1 (by omega) ?_⟩
      unfold BF.insAt
      rw [ht']
      exact h1
  · have hl2 : us.length = 2 := by rw [hus.len]; exact z
    rw [decide_eq_false (fun y => by injection y with y; omega)]
    obtain ⟨t1, t2, ht'⟩ := len_two z
    refine iteF ⟨_, rfl, _, _, _, _, _, rfl, S1 _ _ ta.node, (kcl_Node T).cl, no_Node_level T, ndF_level, _, _, rfl, rfl, _, rfl, ?_⟩
    refine make_node (Same.refl _) hqs (fulls_ent (by omega) hus hf) (by omega) fun x dx bv H2 hx S2 h1 h2 => ?_
    refine k _ (m + 1) H2 (S1.trans S2) (Nat.le_refl _) ?_
    have e2 : BF.insAt m t it = .node (Kvg6.insertInto m t it) := by
      unfold BF.insAt
      rw [ht']
    rw [e2]
    refine ⟨by omega, us, ?_, Paired.impl (fun _ _ => S2.tree) hus⟩
    have h3 := node_new S2 hqs (fulls_ent (by omega) hus hf) h1 h2
    rw [show ((m : Int) + 2) = (m : Int) + 1 + 1 by omega]
    exact h3
end
end BFW
namespace BFW
open PySem PySem.Spec PyProof.Rows L2 BFH
open Kvg6 (Box Item)
open BF (BoxOk ItOk)
section
variable {P : Program} {w : World} {K : PySem.W.Frag} {mg : Str → Option Value} {base : Heap}
theorem TreeV.bal {H : Hp} {n : Nat} {v : V} {t : Kvg6.Tree} (h : TreeV K H n v t) : BF.Bal n t := h.thin.bal
theorem TreeV.lvl {H : Hp} {n m : Nat} {v : V} {t : Kvg6.Tree} (h : TreeV K H n v t) (g : BF.NE m t) : m = n := BF.lvl_uniq g h.bal
/-! ### the path of an insertion -/
def spPath (K : PySem.W.Frag) : Sp := fun vs H Q _ => ∃ (n : Nat) (v : V) (t : Kvg6.Tree) (q : Addr) (b : Box), vs = [v, .ref q] ∧ n ≤ 5 ∧ TreeV K H n v t ∧ BF.NE n t ∧ BoxAt H q b ∧
  ∀ r H', H r = none → Same H H' → H' r = some (.lst ((Kvg6.pathOf b n t).map fun i => V.int (i : Nat))) → Q (.ref r) H'
theorem sc_path_for : FnScope ["root", "box", "found", "node", "index"] ["root", "box"] (defScope s_path_for) := ⟨rfl, rfl, rfl, by decide +kernel, rfl, by decide +kernel, by decide +kernel⟩
theorem k_path_for (T : Tx K mg) : Kn P w K mg base "path_for" 4 ["root", "box"] (spPath K) := by
  have F := T.fn1 31 (x := "path_for") (st := s_path_for) rfl
  have sc := sc_path_for
  let st : Stmt := s_path_for
  let nn : List Str := ["root", "box", "found", "node", "index"]
  refine ⟨F.ok sc (fun vs H Q E h => ?_) (fun cdv A outer s H vs Q E hr h => ?_), F.binds fun _ _ _ _ _ _ us hl => match us, hl with | [_, _], _ => rfl, F.kp, T.glo 28⟩

  · obtain ⟨n, v, t, q, b, rfl, _⟩ := h
    rfl
  obtain ⟨n, v, t, q, b, rfl, h5, ht, hne, hq, k⟩ := h
  refine ⟨_, (pss_cons (ps_set (i := 2) sc.nd rfl (Or.inl rfl) (pe_lst pa_nil))
      (pss_cons (ps_set (i := 3) sc.nd rfl (Or.inl rfl) (pv 0))
      (pss_cons (ps_while PassesOwn.never (pt_cmpR op_gt (pe_fld (pv 3) rfl) pe_int (nomark _)) (pss_cons (ps_set (i := 4) sc.nd rfl (Or.inl rfl) (kc (k_chosen T) hr (pa_cons (pv 3) (pa_cons (pv 1) pa_nil))))
      (pss_cons (ps_expr (pe_bm PySem.F.plainAttrs_list PySem.F.slot_list_append PySem.F.type_list_append mt_append (pv 2) (pa_cons (pv 4) pa_nil)))
      (pss_one (ps_set (i := 3) sc.nd rfl (Or.inl rfl) (pe_ix ix_list (pe_fld (pv 3) rfl) (pv 4) (fun _ _ => rfl)))))))
      (pss_one (ps_ret (pv 2)))))), ?_⟩
  refine ⟨Nat.zero_le _, fun f hf => ?_⟩
  refine ⟨_, rfl, ?_⟩
  refine ⟨fun m σ H1 => ∃ (u : V) (c : Kvg6.Tree) (l : List Nat) (o : Option V), σ = [some v, some (.ref q), some (.ref f), some u, o] ∧ m ≤ n ∧ Same H H1 ∧ H1 f = some (.lst (l.map fun i => V.int (i : Nat))) ∧ l.length + m = n ∧ TreeV K H m u c ∧ BF.NE m c ∧ l ++ Kvg6.pathOf b m c = Kvg6.pathOf b n t, ⟨n, v, t, [], _, rfl, Nat.le_refl _, Same.upd hf, upd_same, by simp, ht, hne, rfl⟩, ?_⟩
  rintro m σ H1 ⟨u, c, l, o, rfl, hm, S, hl, hlen, hc, hcn, he⟩
  obtain ⟨p, dx, e, bv, xs, rfl, ta⟩ := hc.at_
  refine ⟨_, rfl, _, _, _, _, _, rfl, S _ _ ta.node, (kcl_Node T).cl, no_Node_level T, ndF_level, _, _, rfl, rfl, _, rfl, ?_⟩
  cases m with
  | zero =>
    obtain ⟨items, rfl⟩ := hc.bal.leaf
    rw [decide_eq_false (by omega)]
    rw [BF.path_leaf, List.append_nil] at he
    exact iteF ⟨_, rfl, k f H1 hf S (by rw [hl, he])⟩
  | succ m =>
    obtain ⟨ch, rfl, _⟩ := hc.bal.node
    obtain ⟨m', e1, hk⟩ := ta.kids
    obtain rfl : m' = m := by omega
    have hcl : BF.pickCh ch b < ch.length := by
      have := BF.choose_lt (boxes := ch.map Kvg6.Tree.box) (b := b) (by rw [List.length_map]; exact List.length_pos_iff.mpr hcn.1)
      rwa [List.length_map] at this
    have hc : ch[BF.pickCh ch b]? = some (ch[BF.pickCh ch b]'hcl) := List.getElem?_eq_getElem hcl
    generalize ch[BF.pickCh ch b]'hcl = c at hc
    obtain ⟨x, hx, hxc⟩ := hk.get2 hc
    rw [decide_eq_true (by omega)]
    have h4 := ta.four
    refine iteT ⟨fun σ' H' => ∃ m'', m'' < m' + 1 ∧ ∃ (u : V) (c : Kvg6.Tree) (l : List Nat) (o : Option V), σ' = [some v, some (.ref q), some (.ref f), some u, o] ∧ m'' ≤ n ∧ Same H H' ∧ H' f = some (.lst (l.map fun i => V.int (i : Nat))) ∧ l.length + m'' = n ∧ TreeV K H m'' u c ∧ BF.NE m'' c ∧ l ++ Kvg6.pathOf b m'' c = Kvg6.pathOf b n t, fun σ' H' h => h, ?_⟩
    refine ⟨_, rfl, _, rfl, p, dx, e, q, _, bv, xs, _, _, rfl, S _ _ ta.node, S _ _ ta.list, Paired.impl (fun _ _ => S.ent) ta.ents, by intro z; exact hcn.1 (List.map_eq_nil_iff.mp z), by omega, S.box hq, fun H2 S2 => ?_⟩
    have hf2 := S2 _ _ hl
    refine ⟨_, rfl, .inl ⟨rfl, _, .inl (.inl hf2)⟩, _, rfl, f, _, _, rfl, rfl, hf2, ?_, ?_⟩
    · rw [List.length_map]
      exact Nat.lt_of_le_of_lt (show l.length ≤ 5 by omega) (by decide)
    · have S3 := (S.trans S2).upd2 (o := .lst ((l.map fun i => V.int (i : Nat)) ++ [.int ((BF.pickCh ch b : Nat) : Int)])) hf
      refine ⟨_, rfl, _, _, _, _, _, rfl, S3 _ _ ta.node, (kcl_Node T).cl, no_Node_entries T, ndF_entries, _, rfl, e, xs, _, x, rfl, rfl, .inl (.inl (S3 _ _ ta.list)), at_of rfl hx, ?_⟩
      refine ⟨m', by omega, x, c, l ++ [BF.pickCh ch b], _, rfl, by omega, S3, ?_, by rw [List.length_append, List.length_singleton]; omega, hxc, hcn.2 c (List.mem_of_getElem? hc), ?_⟩
      · rw [upd_same, List.map_append]
        rfl
      · rw [← he, BF.path_node hc, List.append_assoc]
        rfl
/-! ### removal -/
def spCW (K : PySem.W.Frag) : Sp := fun vs H Q _ => ∃ (n id : Nat) (v : V) (ch : List Kvg6.Tree), vs = [v, .int id] ∧ n ≤ 4 ∧ TreeV K H (n + 1) v (.node ch) ∧ (∃ c ∈ ch, BF.has n c id = true) ∧
  ∀ H', Same H H' → Q (.int (BF.whichCh n ch id : Nat)) H'
theorem sc_child_with : FnScope ["node", "number", "child"] ["node", "number"] (defScope s_child_with) := ⟨rfl, rfl, rfl, by decide +kernel, rfl, by decide +kernel, by decide +kernel⟩
theorem k_child_with (T : Tx K mg) : Kn P w K mg base "child_with" 10 ["node", "number"] (spCW K) := by
  have F := T.fn1 34 (x := "child_with") (st := s_child_with) rfl
  have sc := sc_child_with
  let st : Stmt := s_child_with
  let nn : List Str := ["node", "number", "child"]
  refine ⟨F.ok sc (fun vs H Q E h => ?_) (fun cdv A outer s H vs Q E hr h => ?_), F.binds fun _ _ _ _ _ _ us hl => match us, hl with | [_, _], _ => rfl, F.kp, T.glo 31⟩

  · obtain ⟨n, id, v, ch, rfl, _⟩ := h
    rfl
  obtain ⟨n, id, v, ch, rfl, h5, ht, hex, k⟩ := h
  refine ⟨_, (pss_one (ps_ret (pe_bm PySem.F.plainAttrs_list PySem.F.slot_list_index PySem.F.type_list_index mt_index (pe_lc (own := [("child", 2)]) (g := gName 2) (tt := tYes) rfl sc.nd (pi_list (pe_fld (pv 0) rfl)) (blkOk_by (N := nn) (sc := defScope st) (by decide +kernel)) (fun _ _ _ _ _ => (pg_name (i := 2) sc.nd rfl (Or.inl rfl))) (fun _ _ _ _ _ => pts_nil) (fun _ _ _ _ _ => (pe_cmpR op_notN (kc (k_item_with T) hr (pa_cons (pv 2) (pa_cons (pv 1) pa_nil))) pe_non (nomark _)))) (pa_cons pe_bl pa_nil)))), ?_⟩
  obtain ⟨p, dx, e, bv, xs, rfl, ta⟩ := ht.at_
  obtain ⟨n', e1, hk⟩ := ta.kids
  obtain rfl : n' = n := by omega
  have h4 := ta.four
  refine ⟨_, rfl, _, _, _, _, _, rfl, ta.node, (kcl_Node T).cl, no_Node_entries T, ndF_entries, e, rfl, ⟨_, .inl (.inl ta.list)⟩, ?_⟩
  refine lc_li (R0 := TreeV K H n') ch (fun _ => true) (fun _ u (c : Kvg6.Tree) => u = .bl (BF.has n' c id)) hk ?_ ?_ ?_ ?_ ?_ ?_ ?_
  · exact fun H2 S => .inl (.inl (S _ _ ta.list))
  · exact Nat.lt_of_le_of_lt h4 (by decide)
  · exact fun _ _ _ _ _ h => h
  · exact fun _ => rfl
  · exact fun x z H1 _ _ _ k hk => hk H1 (Same.refl H1)
  · intro x c H1 D acc hx hc _ S S' hD k hk
    refine ⟨_, rfl, _, rfl, n', id, x, c, H, by omega, rfl, S, hx, fun r H2 S2 hr2 => ?_⟩
    refine ⟨rfl, hk _ _ S2 ?_⟩
    have hf := BF.has_find (n := n') (t := c) (id := id)
    cases q : (Kvg6.itemsOfTree n' c).find? (fun it => it.id == id) with
    | none =>
      rw [q] at hr2 hf
      rw [show r = .non from hr2, ← hf]
      rfl
    | some it =>
      rw [q] at hr2 hf
      obtain ⟨a, dx, q', rfl, _⟩ := (show ItemAt K H r it from hr2)
      rw [← hf]
      rfl
  · intro D H' ys hD S hl2 hys
    rw [show ch.filter (fun _ => true) = ch from List.filter_eq_self.mpr fun _ _ => rfl] at hys
    obtain ⟨c, hc, hh, hb⟩ := BF.which_spec hex
    obtain ⟨z, hz, ez⟩ := hys.get2 hc
    subst ez
    refine ⟨.inl ⟨rfl, _, .inl (.inl hl2)⟩, D, ys, _, _, _, rfl, rfl, .inl (.inl hl2), rfl, ?_, hz, by rw [hh]; rfl, ?_, k H' S⟩
    · rw [List.all_eq_true]
      intro y hy
      obtain ⟨i, hi⟩ := List.getElem?_of_mem hy
      obtain ⟨c', _, rfl⟩ := hys.get hi
      rfl
    · intro m z' hm hz'
      obtain ⟨c', hc', rfl⟩ := hys.get hz'
      rw [hb m c' hm hc']
      rfl
def spRm (K : PySem.W.Frag) (n : Nat) : Sp := fun vs H Q _ => ∃ (m id : Nat) (v : V) (t : Kvg6.Tree), m < n ∧ m ≤ 5 ∧ vs = [v, .int id] ∧ TreeV K H m v t ∧ BF.Root m t ∧ ((Kvg6.itemsOfTree m t).map Item.id).Nodup ∧ BF.has m t id = true ∧
  ∀ q p o os H', H q = none → Same H H' → H' q = some (.tup [.ref p, .ref o]) → TreeV K H' m (.ref p) (BF.rmv m t id).1 → H' o = some (.lst os) → Paired (ItemAt K H') os (BF.rmv m t id).2 → os.length ≤ 4096 * m → Q (.ref q) H'
theorem zero_removed_below {vs : List V} {H : Hp} {Q : VK} {E : XK} (h : spRm K 0 vs H Q E) : False := by
  obtain ⟨m, id, v, t, h1, _⟩ := h
  omega
theorem TreeAt.count {H : Hp} {n : Nat} {t : Kvg6.Tree} {p dx e : Addr} {bv : V} {xs : List V} (h : TreeAt K H n t p dx e bv xs) : xs.length = BF.entries t := by
  have hk := h.kids
  cases t with
  | leaf items => exact hk.2.len
  | node ch =>
    obtain ⟨m, _, hk⟩ := hk
    exact hk.len
theorem rmv_node {n : Nat} {ch : List Kvg6.Tree} {id : Nat} {c : Kvg6.Tree} (h : ch[BF.whichCh n ch id]? = some c) : BF.rmv (n + 1) (.node ch) id =
    if BF.entries (BF.rmv n c id).1 < 2 then (.node (ch.eraseIdx (BF.whichCh n ch id)), (BF.rmv n c id).2 ++ Kvg6.itemsOfTree n (BF.rmv n c id).1) else (.node (ch.set (BF.whichCh n ch id) (BF.rmv n c id).1), (BF.rmv n c id).2) := by
  rw [BF.rmv, h]
theorem has_node {n : Nat} {ch : List Kvg6.Tree} {id : Nat} (h : BF.has (n + 1) (.node ch) id = true) : ∃ c ∈ ch, BF.has n c id = true := by
  obtain ⟨it, hi, e⟩ := List.any_eq_true.mp h
  have hi : it ∈ ch.flatMap (Kvg6.itemsOfTree n) := hi
  obtain ⟨c, hc, hic⟩ := List.mem_flatMap.mp hi
  exact ⟨c, hc, List.any_eq_true.mpr ⟨it, hic, e⟩⟩
theorem sc_removed_below : FnScope ["node", "number", "index", "child", "orphans", "kept", "item"] ["node", "number"] (defScope s_removed_below) := ⟨rfl, rfl, rfl, by decide +kernel, rfl, by decide +kernel, by decide +kernel⟩
theorem n_removed_below (T : Tx K mg) : ∀ n : Nat, Kn P w K mg base "removed_below" (n + 11) ["node", "number"] (spRm K n)
  | 0 => by
    have F := T.fn1 35 (x := "removed_below") (st := s_removed_below) rfl
    exact ⟨⟨fun _ _ _ _ h => (zero_removed_below h).elim, fun _ _ _ _ _ _ _ _ _ _ _ _ _ h => (zero_removed_below h).elim⟩, F.binds fun _ _ _ _ _ _ us hl => match us, hl with | [_, _], _ => rfl, F.kp, T.glo 32⟩
  | n + 1 => by
    have ih : Kn P w K mg base "removed_below" (n + 11) ["node", "number"] (spRm K n) := n_removed_below T n
    have F := T.fn1 35 (x := "removed_below") (st := s_removed_below) rfl
    have sc := sc_removed_below
    obtain ⟨tLEAST_ENTRIES, gLEAST_ENTRIES⟩ := T.int 113 (x := "LEAST_ENTRIES") rfl
    let st : Stmt := s_removed_below
    let nn : List Str := ["node", "number", "index", "child", "orphans", "kept", "item"]
    refine ⟨F.ok sc (fun vs H Q E h => ?_) (fun cdv A outer s H vs Q E hr h => ?_), F.binds fun _ _ _ _ _ _ us hl => match us, hl with | [_, _], _ => rfl, F.kp, T.glo 32⟩

    · obtain ⟨m, id, v, t, _, _, rfl, _⟩ := h
      rfl
    obtain ⟨m, id, v, t, hm, h5, rfl, ht, hroot, hnd, hhas, k⟩ := h
    refine ⟨_, (pss_cons (ps_if (pt_cmpR op_eq (pe_fld (pv 0) rfl) pe_int (nomark _)) (pss_one (ps_ret (pe_tup (pa_cons (km (k_Node_init T) hr (pa_cons pe_int (pa_cons (pe_lc (own := [("item", 6)]) (g := gName 6) rfl sc.nd (pi_list (pe_fld (pv 0) rfl)) (blkOk_by (N := nn) (sc := defScope st) (by decide +kernel)) (fun _ _ _ _ _ => (pg_name (i := 6) sc.nd rfl (Or.inl rfl))) (fun _ _ _ _ _ => (pts_one (pt_cmpR op_ne (pe_fldK (K := K) rfl (pv 6) rfl) (pv 1) (nomark _)))) (fun _ _ _ _ _ => (pv 6))) pa_nil)) (hjk := by omega)) (pa_cons (pe_lst pa_nil) pa_nil))))) pss_nil)
      (pss_cons (ps_set (i := 2) sc.nd rfl (Or.inl rfl) (kc (k_child_with T) hr (pa_cons (pv 0) (pa_cons (pv 1) pa_nil)) (hjk := by omega)))
      (pss_cons (ps_asg (kc ih hr (pa_cons (pe_ix ix_list (pe_fld (pv 0) rfl) (pv 2) (fun _ _ => rfl)) (pa_cons (pv 1) pa_nil)) (hjk := by omega)) (pg_tup rfl (pgs_cons (pg_name (i := 3) sc.nd rfl (Or.inl rfl)) (pgs_cons (pg_name (i := 4) sc.nd rfl (Or.inl rfl)) pgs_nil))))
      (pss_cons (ps_set (i := 5) sc.nd rfl (Or.inl rfl) (pe_lst (pa_cons (pv 3) pa_nil)))
      (pss_cons (ps_if (pt_cmpR op_lt (pe_callB call_len_seq (by rfl) (T.free 91) PySem.boot_len (pa_cons (pe_fld (pv 3) rfl) pa_nil)) (pe_glob (v := .int (2)) rfl gLEAST_ENTRIES ⟨_, rfl⟩) (nomark _)) (pss_one (ps_par (i := 5) (j := 4) rfl sc.nd rfl rfl (by decide) rfl rfl (pa_cons (pe_lst pa_nil) (pa_cons (pe_op op_cat (pv 4) (kc (k_items_below T) hr (pa_cons (pv 3) pa_nil) (hjk := by omega))) pa_nil)) (by rfl))) pss_nil)
      (pss_one (ps_ret (pe_tup (pa_cons (km (k_Node_init T) hr (pa_cons (pe_fld (pv 0) rfl) (pa_cons (pe_op op_cat (pe_op op_cat (pe_slice sl_list (pe_fld (pv 0) rfl) po_none (po_some (pv 2))) (pv 5)) (pe_slice sl_list (pe_fld (pv 0) rfl) (po_some (pe_op op_add (pv 2) pe_int)) po_none)) pa_nil)) (hjk := by omega)) (pa_cons (pv 4) pa_nil)))))))))), ?_⟩
    obtain ⟨p, dx, e, bv, xs, rfl, ta⟩ := ht.at_
    have hk := ta.kids
    have h4 := ta.four
    refine ⟨_, rfl, _, _, _, _, _, rfl, ta.node, (kcl_Node T).cl, no_Node_level T, ndF_level, rfl, _, rfl, ?_⟩
    cases m with
    | zero =>
      obtain ⟨items, rfl⟩ := hroot.bal.leaf
      obtain ⟨_, hk⟩ := hk
      rw [decide_eq_true (by rfl)]
      refine iteT ?_
      refine ⟨_, rfl, _, _, _, _, _, rfl, ta.node, (kcl_Node T).cl, no_Node_entries T, ndF_entries, e, rfl, ⟨_, .inl (.inl ta.list)⟩, ?_⟩
      refine lc_li (R0 := ItemAt K H) items (fun it => it.id != id) (ItemAt K) hk ?_ ?_ ?_ ?_ ?_ ?_ ?_
      · exact fun H2 S => .inl (.inl (S _ _ ta.list))
      · exact Nat.lt_of_le_of_lt h4 (by decide)
      · exact fun _ _ _ _ S h => S.item h
      · exact fun _ => rfl
      · intro x it H1 hx _ S k hk
        have hx1 := S.item hx
        obtain ⟨a, dx', q', rfl, y1, y2⟩ := hx1
        refine ⟨_, rfl, _, _, _, _, _, rfl, y1, (kcl_Item T).cl, no_Item_number T, itF_number, _, rfl, rfl, _, rfl, ?_⟩
        have := hk H1 (Same.refl H1)
        by_cases c : it.id = id
        · rw [show (it.id != id) = false by simp [c]] at this
          rw [decide_eq_true (by rw [c])]
          exact this
        · rw [show (it.id != id) = true by simp [c]] at this
          rw [decide_eq_false (fun z => by injection z with z; omega)]
          exact this
      · exact fun x it H1 D acc hx _ _ S S' hD k hk => ⟨_, rfl, hk _ _ (Same.refl H1) (S'.item hx)⟩
      · intro D H1 ys hD S hl2 hys
        have hys1 := Paired.impl (fun _ _ => off_same.item) hys
        have hyl : ys.length ≤ 4 := by
          rw [hys1.len]
          exact Nat.le_trans (List.length_filter_le _ _) (by rw [← hk.len]; exact h4)
        refine make_node (Same.refl _) hl2 (Paired.mapR (Paired.impl (fun _ _ h => h.ent) hys1)) (by omega) fun x dx2 bv2 H2 hx S2 z1 z2 => ⟨Nat.zero_le _, fun o ho => ?_⟩
        have So := Same.upd (o := .lst []) ho
        refine ⟨by show 2 ≤ sizeLine; decide, fun q hq => ?_⟩
        have Sq := So.upd3 (o := .tup [.ref x, .ref o]) hq
        refine k q x o [] _ (((S.trans S2).trans So).free hq) ((S.trans S2).trans Sq) upd_same ?_ (by rw [upd_ne (ne_of_none upd_same hq)]; exact upd_same) (by rw [BF.rmv_leaf]; exact .nil) (Nat.zero_le _)
        rw [BF.rmv_leaf]
        exact ⟨by rw [← hys1.len]; exact hyl, ys, Sq.node (node_new S2 hl2 (Paired.mapR (Paired.impl (fun _ _ h => h.ent) hys1)) z1 z2), Paired.impl (fun _ _ => (S2.trans Sq).item) hys1⟩
    | succ m =>
      obtain ⟨ch, rfl, _⟩ := hroot.bal.node
      obtain ⟨m', e1, hk⟩ := hk
      obtain rfl : m' = m := by omega
      obtain ⟨⟨r2, r4⟩, hfull⟩ := hroot
      rw [decide_eq_false (fun z => by injection z with z; omega)]
      have hex := has_node hhas
      refine iteF ⟨_, rfl, _, rfl, m', id, _, ch, rfl, by omega, ht, hex, fun H1 S1 => ?_⟩
      obtain ⟨c, hc, hch, _⟩ := BF.which_spec hex
      have hrm := rmv_node hc
      obtain ⟨x, hx, hxc⟩ := hk.get2 hc
      have hcm := List.mem_of_getElem? hc
      have hcf := hfull c hcm
      have hcnd : ((Kvg6.itemsOfTree m' c).map Item.id).Nodup := BF.flat_nodup_mem (n := m') (ch := ch) hnd hcm
      have hrok := BF.rmv_ok m' c id hcf hcnd hch
      have hwl : BF.whichCh m' ch id < ch.length := (List.getElem?_eq_some_iff.mp hc).1
      generalize BF.whichCh m' ch id = i at *
      have hxl := hk.len
      refine ⟨_, rfl, _, _, _, _, _, rfl, S1 _ _ ta.node, (kcl_Node T).cl, no_Node_entries T, ndF_entries, _, rfl, e, xs, _, x, rfl, rfl, .inl (.inl (S1 _ _ ta.list)), at_of rfl hx, _, rfl, m', id, x, c, by omega, by omega, rfl, S1.tree hxc, hcf.root, hcnd, hch, fun q p1 o1 os H2 hq S2 hqt htr ho hpo hol => ?_⟩
      refine ⟨q, _, rfl, .inl (.inl hqt), rfl, _, _, rfl, _, _, rfl, rfl, ?_⟩
      have S12 := S1.trans S2
      refine ⟨_, rfl, by show 1 ≤ sizeLine; decide, fun kp hkp => ?_⟩
      have Sk := Same.upd (o := .lst [.ref p1]) hkp
      obtain ⟨_, dxr, er, bvr, xr, er1, tar⟩ := htr.at_
      cases er1
      have hcnt := tar.count
      have tail : ∀ (H3 : Hp) (kq oq : Addr) (kv : List V) (ks : List Kvg6.Tree) (oo : List V) (ol : List Item), Same H H3 → H3 kq = some (.lst kv) → Paired (TreeV K H3 m') kv ks → (∀ t ∈ ks, BF.Full m' t) → kv.length ≤ 1 → H3 oq = some (.lst oo) → Paired (ItemAt K H3) oo ol → oo.length ≤ 4096 * (m' + 1) →
          BF.rmv (m' + 1) (.node ch) id = (.node (ch.take i ++ ks ++ ch.drop (i + 1)), ol) → ∀ k3 : Str, True →
          (tTup (tCons (tMake (He.ga K "Node") (spNodeI K) [] E0 (tCons (tFld K (tVar 0) "level") (tCons (tOp rCat (tOp rCat (tSl (rSlL K) (tFld K (tVar 0) "entries") tNoPart (tPart (tVar 2))) (tVar 5)) (tSl (rSlL K) (tFld K (tVar 0) "entries") (tPart (tOp (rI0 fun i j => .int (i + j)) (tVar 2) (tC (.int 1)))) tNoPart)) tNil))) (tCons (tVar 4) tNil)))
            [some (.ref p), some (.int id), some (.int i), some (.ref p1), some (.ref oq), some (.ref kq), none] H3 Q := by
        intro H3 kq oq kv ks oo ol S3 hkq hks hkf hkl hoq hol2 holn hre _ _
        refine ⟨_, rfl, _, _, _, _, _, rfl, S3 _ _ ta.node, (kcl_Node T).cl, no_Node_level T, ndF_level, ?_⟩
        have hi4 : i ≤ xs.length := by omega
        have hi5 : i + 1 ≤ xs.length := by omega
        refine ⟨_, rfl, _, _, _, _, _, rfl, S3 _ _ ta.node, (kcl_Node T).cl, no_Node_entries T, ndF_entries, _, rfl, _, rfl, e, xs, rfl, .inl (.inl (S3 _ _ ta.list)), fun p1' hp1 => ?_⟩
        rw [cut_lo hi4]
        have T1 := Same.upd (o := .lst (xs.take i)) hp1
        refine ⟨_, rfl, p1', kq, _, kv, rfl, rfl, upd_same, T1 _ _ hkq, line_small (by rw [List.length_take]; omega), fun p2 hp2 => ?_⟩
        have T2 := T1.upd3 (o := .lst (xs.take i ++ kv)) hp2
        refine ⟨_, rfl, _, _, _, _, _, rfl, (S3.trans T2) _ _ ta.node, (kcl_Node T).cl, no_Node_entries T, ndF_entries, _, rfl, _, _, rfl, rfl, _, rfl, e, xs, rfl, .inl (.inl ((S3.trans T2) _ _ ta.list)), fun p3 hp3 => ?_⟩
        rw [cut_hi (j := i + 1) (by show ((i : Nat) : Int) + 1 = _; omega) hi5]
        have T3 := T2.upd3 (o := .lst (xs.drop (i + 1))) hp3
        refine ⟨p2, p3, _, _, rfl, rfl, by rw [upd_ne (ne_of_none (upd_same) hp3)]; exact upd_same, upd_same, line_small (by rw [List.length_append, List.length_take, List.length_drop]; omega), fun p4 hp4 => ?_⟩
        have T4 := T3.upd3 (o := .lst (xs.take i ++ kv ++ xs.drop (i + 1))) hp4
        have L4 := upd_same (H := upd (upd (upd H3 p1' (.lst (xs.take i))) p2 (.lst (xs.take i ++ kv))) p3 (.lst (xs.drop (i + 1)))) (a := p4) (o := .lst (xs.take i ++ kv ++ xs.drop (i + 1)))
        generalize upd (upd (upd (upd H3 p1' (.lst (xs.take i))) p2 (.lst (xs.take i ++ kv))) p3 (.lst (xs.drop (i + 1)))) p4 (.lst (xs.take i ++ kv ++ xs.drop (i + 1))) = H4 at *
        have S4 := S3.trans T4
        have hk4 := Paired.impl (fun _ _ => S4.tree (n := m')) hk
        have hpt : Paired (TreeV K H4 m') (xs.take i ++ kv ++ xs.drop (i + 1)) (ch.take i ++ ks ++ ch.drop (i + 1)) := Paired.app (Paired.app (Paired.takeP _ hk4) (Paired.impl (fun _ _ => T4.tree) hks)) (Paired.dropP _ hk4)
        have hall : ∀ t ∈ ch.take i ++ ks ++ ch.drop (i + 1), BF.Full m' t := fun t h => by
          rcases List.mem_append.mp h with h | h
          · rcases List.mem_append.mp h with h | h
            · exact hfull t (List.mem_of_mem_take h)
            · exact hkf t h
          · exact hfull t (List.mem_of_mem_drop h)
        have hl4 : (xs.take i ++ kv ++ xs.drop (i + 1)).length ≤ 4 := by
          rw [List.length_append, List.length_append, List.length_take, List.length_drop]
          omega
        have hents := fulls_ent (by omega) hpt hall
        refine make_node (Same.refl _) L4 hents (by omega) fun x5 dx5 bv5 H5 hx5 S5 z1 z2 => ?_
        refine ⟨_, rfl, by show 2 ≤ sizeLine; decide, fun q6 hq6 => ?_⟩
        have Sq := Same.upd (o := .tup [.ref x5, .ref oq]) hq6
        have S6 := (S4.trans S5).trans Sq
        refine k q6 x5 oq oo _ (((S4.trans S5)).free hq6) S6 upd_same ?_ (Sq _ _ (S5 _ _ (T4 _ _ hoq))) ?_ holn
        · rw [hre]
          refine ⟨by rw [← hpt.len]; exact hl4, _, ?_, Paired.impl (fun _ _ => (S5.trans Sq).tree) hpt⟩
          have h3 := Sq.node (node_new S5 L4 hents z1 z2)
          rw [show ((m' : Int) + 2) = (((m' + 1 : Nat) : Int) + 1) by omega]
          exact h3
        · rw [hre]
          exact Paired.impl (fun _ _ => ((T4.trans S5).trans Sq).item) hol2
      refine ⟨_, rfl, _, _, _, _, _, rfl, Sk _ _ tar.node, (kcl_Node T).cl, no_Node_entries T, ndF_entries, er, xr, rfl, .inl (.inl (.inl (Sk _ _ tar.list))), _, _, rfl, rfl, _, rfl, ?_⟩
      rw [hrm] at tail
      by_cases c2 : BF.entries (BF.rmv m' c id).1 < 2
      · rw [decide_eq_true (by omega)]
        rw [if_pos c2] at tail
        refine iteT ⟨Nat.zero_le _, fun k0 hk0 => ?_⟩
        have Sk0 := Sk.upd3 (o := .lst []) hk0
        have htr2 := Sk0.tree htr
        refine ⟨_, rfl, _, rfl, m', .ref p1, _, _, by omega, rfl, Same.refl _, htr2, fun l xl H4 hl S4 hll hpl => ?_⟩
        have e4 : xl.length ≤ 4096 := by
          rw [hpl.len]
          exact Nat.le_trans (BF.items_thin _ _ htr.thin) (BF.low_pow (by omega))
        refine ⟨o1, l, os, xl, rfl, rfl, S4 _ _ (Sk0 _ _ ho), hll, line_small (by omega), fun o5 ho5 => ?_⟩
        have S5 := S4.upd3 (o := .lst (os ++ xl)) ho5
        refine ⟨_, _, rfl, ?_⟩
        refine tail _ k0 o5 [] [] (os ++ xl) _ ((S12.trans Sk0).trans S5) ?_ .nil (fun t h => nomatch h) (Nat.zero_le _) upd_same (Paired.app (Paired.impl (fun _ _ => (Sk0.trans S5).item) hpo) (Paired.impl (fun _ _ => S5.item) hpl)) (by rw [List.length_append]; omega) ?_ "" trivial
        · exact S5 _ _ (by rw [upd_same])
        · rw [List.append_nil, ← List.eraseIdx_eq_take_drop_succ]
      · rw [decide_eq_false (by omega)]
        rw [if_neg c2] at tail
        refine iteF ?_
        refine tail _ kp o1 [.ref p1] [(BF.rmv m' c id).1] os _ (S12.trans Sk) upd_same (.cons (Sk.tree htr) .nil) (fun t h => ?_) (Nat.le_refl _) (Sk _ _ ho) (Paired.impl (fun _ _ => Sk.item) hpo) (by omega) ?_ "" trivial
        · rw [List.mem_singleton.mp h]
          exact hrok.slim.full (by omega)
        · rw [List.set_eq_take_append_cons_drop, if_pos hwl, List.append_assoc]
          rfl
theorem k_removed_below (T : Tx K mg) : Kn P w K mg base "removed_below" 17 ["node", "number"] (spRm K 6) := n_removed_below T 6
end
end BFW
namespace BFW
open PySem PySem.Spec PyProof.Rows L2 BFH
open Kvg6 (Box Item)
open BF (BoxOk ItOk)
open PySem.W (dataLt dataLe AllAlike Sortable)
section
variable {P : Program} {w : World} {K : PySem.W.Frag} {mg : Str → Option Value} {base : Heap}
theorem merge_sortK {α : Type} {kd : α → PyData} {key : α → List Int} (hk : ∀ a b, dataLt (kd a) (kd b) = BF.klt (key a) (key b)) {l : List α} (hn : (l.map key).Nodup) : l.mergeSort (dataLe false kd) = BF.sortK key l := by
  have e : ∀ a b, dataLe false kd a b = !BF.klt (key b) (key a) := fun a b => by
    rw [← hk]
    rfl
  have hs : (l.mergeSort (dataLe false kd)).Pairwise fun a b => dataLe false kd a b = true := by
    refine List.pairwise_mergeSort (fun a b c h1 h2 => ?_) (fun a b => ?_) l
    · rw [e] at h1 h2 ⊢
      cases q : BF.klt (key c) (key a) with
      | false => rfl
      | true =>
        have h1' : BF.klt (key b) (key a) = false := by simpa using h1
        have h2' : BF.klt (key c) (key b) = false := by simpa using h2
        have := BF.klt_neg q h1'
        rw [h2'] at this
        cases this
    · rw [e, e]
      cases q : BF.klt (key b) (key a) with
      | false => rfl
      | true =>
        rw [BF.klt_asymm q]
        rfl
  refine (BF.sortK_eq (List.mergeSort_perm l _) (hs.imp fun {a b} h => ?_) hn).symm
  rw [e] at h
  simpa using h
theorem intD_lt (a b : Int) : dataLt (.int a) (.int b) = BF.klt [a] [b] := by
  rw [PySem.W.dataLt_int, BF.klt_one]
/-! ### the root without its only child's parent -/
def spLow (K : PySem.W.Frag) : Sp := fun vs H Q _ => ∃ (n : Nat) (v : V) (t : Kvg6.Tree), vs = [v] ∧ n ≤ 5 ∧ TreeV K H n v t ∧ (BF.Slim n t ∨ t = .leaf []) ∧
  ∀ r H', Same H H' → TreeV K H' (BF.lowAt n t).1 r (BF.lowAt n t).2 → Q r H'
theorem low_leaf (n : Nat) (items : List Item) : BF.lowAt n (.leaf items) = (n, .leaf items) := by cases n <;> rfl
theorem low_full {n : Nat} {t : Kvg6.Tree} (h : BF.Full n t) : BF.lowAt n t = (n, t) := by
  cases n with
  | zero =>
    obtain ⟨items, rfl⟩ := h.bal.leaf
    rfl
  | succ n =>
    obtain ⟨ch, rfl, _⟩ := h.bal.node
    rcases ch with _ | ⟨a, _ | ⟨b, r⟩⟩
    · rfl
    · exact absurd h.1.1 (by simp)
    · rfl
theorem sc_lowered : FnScope ["root", "found"] ["root"] (defScope s_lowered) := ⟨rfl, rfl, rfl, by decide +kernel, rfl, by decide +kernel, by decide +kernel⟩
theorem k_lowered (T : Tx K mg) : Kn P w K mg base "lowered" 7 ["root"] (spLow K) := by
  have F := T.fn1 36 (x := "lowered") (st := s_lowered) rfl
  have sc := sc_lowered
  let st : Stmt := s_lowered
  let nn : List Str := ["root", "found"]
  refine ⟨F.ok sc (fun vs H Q E h => ?_) (fun cdv A outer s H vs Q E hr h => ?_), F.binds fun _ _ _ _ _ _ us hl => match us, hl with | [_], _ => rfl, F.kp, T.glo 33⟩

  · obtain ⟨n, v, t, rfl, _⟩ := h
    rfl
  obtain ⟨n, v, t, rfl, h5, ht, hs, k⟩ := h
  refine ⟨_, (pss_cons (ps_set (i := 1) sc.nd rfl (Or.inl rfl) (pv 0))
      (pss_cons (ps_while PassesOwn.never (PW.pt (pw_and (pt_cmpR op_gt (pe_fld (pv 1) rfl) pe_int (nomark _)) (pw_and1 (pt_cmpR op_eq (pe_callB call_len_seq (by rfl) (T.free 91) PySem.boot_len (pa_cons (pe_fld (pv 1) rfl) pa_nil)) pe_int (nomark _))))) (pss_one (ps_set (i := 1) sc.nd rfl (Or.inl rfl) (pe_ix ix_list (pe_fld (pv 1) rfl) pe_int (fun _ _ => rfl)))))
      (pss_one (ps_ret (pe_ifExp (pt_cmpR (op_eqNil hr.units0) (pe_fld (pv 1) rfl) (pe_lst pa_nil) (nomark _)) (kc0 (k_empty_leaf T) hr) (pv 1)))))), ?_⟩
  refine ⟨_, rfl, ?_⟩
  refine ⟨fun m σ H1 => ∃ (u : V) (n' : Nat) (c : Kvg6.Tree), σ = [some v, some u] ∧ m = n' ∧ n' ≤ 5 ∧ H1 = H ∧ TreeV K H n' u c ∧ ((BF.Slim n' c ∨ c = .leaf []) ∨ BF.Full n' c) ∧ BF.lowAt n' c = BF.lowAt n t, ⟨n, v, n, t, rfl, rfl, h5, rfl, ht, .inl hs, rfl⟩, ?_⟩
  rintro m σ H1 ⟨u, n', c, rfl, rfl, h5', rfl, hc, hcs, he⟩
  obtain ⟨p, dx, e, bv, xs, rfl, ta⟩ := hc.at_
  have hk := ta.kids
  -- the end
  have fin : BF.lowAt m c = (m, c) → (tRet (tIf (tTest (tOp (rEqNil K) (tFld K (tVar 1) "entries") (tLst tNil))) (tCall (spEmpty K) [] E0 tNil) (tVar 1)) : TS) { nx := fun _ H' => Q .non H', rt := Q } [some v, some (.ref p)] H1 := by
    intro el
    refine ⟨_, rfl, _, _, _, _, _, rfl, ta.node, (kcl_Node T).cl, no_Node_entries T, ndF_entries, Nat.zero_le _, fun l hl => ?_⟩
    have S1 := Same.upd (o := .lst []) hl
    refine ⟨e, l, xs, rfl, rfl, .inl (.inl (S1 _ _ ta.list)), upd_same, _, rfl, ?_⟩
    rw [el] at he
    cases xs with
    | nil =>
      refine iteT ⟨rfl, fun q H2 hq S2 hq2 => ?_⟩
      refine k (.ref q) H2 (S1.trans S2) ?_
      rw [← he]
      cases c with
      | leaf items =>
        obtain ⟨rfl, hk⟩ := hk
        cases hk
        exact hq2
      | node ch =>
        obtain ⟨m', rfl, hk⟩ := hk
        cases hk
        rcases hcs with (h | h) | h
        · exact absurd h.1.1 (by simp)
        · cases h
        · exact absurd h.1.1 (by simp)
    | cons x xs =>
      refine iteF ⟨_, rfl, k (.ref p) _ S1 ?_⟩
      rw [← he]
      exact S1.tree hc
  refine ⟨_, rfl, _, _, _, _, _, rfl, ta.node, (kcl_Node T).cl, no_Node_level T, ndF_level, _, _, rfl, rfl, _, rfl, ?_⟩
  cases c with
  | leaf items =>
    obtain ⟨rfl, hk⟩ := hk
    rw [decide_eq_false (by omega)]
    exact iteF (iteF (fin (low_leaf 0 items)))
  | node ch =>
    obtain ⟨m', rfl, hk⟩ := hk
    rw [decide_eq_true (by omega)]
    refine iteT ⟨_, rfl, _, _, _, _, _, rfl, ta.node, (kcl_Node T).cl, no_Node_entries T, ndF_entries, e, xs, rfl, .inl (.inl (.inl ta.list)), rfl, _, rfl, ?_⟩
    have hxl := hk.len
    rcases ch with _ | ⟨a, _ | ⟨b, r⟩⟩
    · have hxl' : xs.length = 0 := hxl
      rw [decide_eq_false (fun z => by injection z with z; omega)]
      exact iteF (fin rfl)
    · rw [decide_eq_true (by rw [hxl]; rfl)]
      have hf : BF.Full m' a := by
        rcases hcs with (h | h) | h
        · exact h.2 a List.mem_cons_self
        · cases h
        · exact absurd h.1.1 (by simp)
      cases hk with
      | cons k1 k2 =>
        cases k2
        refine iteT ⟨fun σ' H' => ∃ m'', m'' < m' + 1 ∧ ∃ (u : V) (n' : Nat) (c : Kvg6.Tree), σ' = [some v, some u] ∧ m'' = n' ∧ n' ≤ 5 ∧ H' = H1 ∧ TreeV K H1 n' u c ∧ ((BF.Slim n' c ∨ c = .leaf []) ∨ BF.Full n' c) ∧ BF.lowAt n' c = BF.lowAt n t, fun σ' H' h => h, ?_⟩
        refine ⟨_, rfl, _, _, _, _, _, rfl, ta.node, (kcl_Node T).cl, no_Node_entries T, ndF_entries, e, _, 0, _, rfl, rfl, .inl (.inl ta.list), rfl, ?_⟩
        exact ⟨m', by omega, _, m', a, rfl, rfl, by omega, rfl, k1, .inr hf, by rw [← he, low_full hf]; rfl⟩
    · have hxl' : xs.length = r.length + 1 + 1 := hxl
      rw [decide_eq_false (fun z => by injection z with z; omega)]
      exact iteF (fin rfl)
def spWO (K : PySem.W.Frag) : Sp := fun vs H Q _ => ∃ (n id : Nat) (v : V) (t : Kvg6.Tree), vs = [v, .int id] ∧ TreeV K H n v t ∧ BF.GoodAt n t ∧ BF.has n t id = true ∧
  ∀ r m H', Same H H' → BF.GoodAt m (Kvg6.remove t id) → TreeV K H' m r (Kvg6.remove t id) → Q r H'
theorem nodup_idKey {l : List Item} (h : (BF.ids l).Nodup) : (l.map BF.idKey).Nodup := by
  have e : l.map BF.idKey = (l.map Item.id).map fun n : Nat => [(n : Int)] := by
    rw [List.map_map]
    rfl
  rw [e]
  exact BF.nodup_map_inj (fun a b h => by injection h with h; exact Int.ofNat.inj h) h
theorem sc_without_item : FnScope ["root", "number", "node", "orphans", "found", "item"] ["root", "number"] (defScope s_without_item) := ⟨rfl, rfl, rfl, by decide +kernel, rfl, by decide +kernel, by decide +kernel⟩
theorem k_without_item (T : Tx K mg) : Kn P w K mg base "without_item" 18 ["root", "number"] (spWO K) := by
  have F := T.fn1 37 (x := "without_item") (st := s_without_item) rfl
  have sc := sc_without_item
  let st : Stmt := s_without_item
  let nn : List Str := ["root", "number", "node", "orphans", "found", "item"]
  refine ⟨F.ok sc (fun vs H Q E h => ?_) (fun cdv A outer s H vs Q E hr h => ?_), F.binds fun _ _ _ _ _ _ us hl => match us, hl with | [_, _], _ => rfl, F.kp, T.glo 34⟩

  · obtain ⟨n, id, v, t, rfl, _⟩ := h
    rfl
  obtain ⟨n, id, v, t, rfl, ht, g, hh, k⟩ := h
  refine ⟨_, (pss_cons (ps_asg (kc (k_removed_below T) hr (pa_cons (pv 0) (pa_cons (pv 1) pa_nil))) (pg_tup rfl (pgs_cons (pg_name (i := 2) sc.nd rfl (Or.inl rfl)) (pgs_cons (pg_name (i := 3) sc.nd rfl (Or.inl rfl)) pgs_nil))))
      (pss_cons (ps_set (i := 4) sc.nd rfl (Or.inl rfl) (kc (k_lowered T) hr (pa_cons (pv 2) pa_nil)))
      (pss_cons (ps_for PassesOwn.never rfl (pi_list (pe_callBK (cr_sortK (k_number_of T) hr) (by rfl) (T.free 96) boot_sorted (pa_cons (pv 3) pa_nil) (pk_cons (pe_glob (v := .ref (He.ga K "number_of")) rfl (T.glo 15) rfl) pk_nil))) (pg_name (i := 5) sc.nd rfl (Or.inl rfl)) (pss_one (ps_set (i := 4) sc.nd rfl (Or.inl rfl) (kc (k_with_item T) hr (pa_cons (pv 4) (pa_cons (pv 5) pa_nil))))))
      (pss_one (ps_ret (pv 4)))))), ?_⟩
  have hlow := g.low
  have hrr := BF.rmv_root g.root g.nodup hh
  obtain ⟨m0, cut⟩ := BF.cut_ok g hh
  obtain ⟨r1, r2, r3⟩ := BF.cut_room g cut
  have hsh := (BF.shorten_eq hrr.slim (by omega)).1
  have hrem := BF.remove_eq g hh
  rw [hsh] at cut r2 r3 hrem
  refine ⟨_, rfl, _, rfl, n, id, v, t, by omega, by omega, rfl, ht, g.root, g.nodup, hh, fun q p o os H1 hq S1 hqt htr ho hpo hol => ?_⟩
  refine ⟨q, _, rfl, .inl (.inl hqt), rfl, _, _, rfl, _, _, rfl, rfl, ?_⟩
  refine ⟨_, rfl, n, _, _, rfl, by omega, htr, hrr.slim, fun r H2 S2 hr2 => ?_⟩
  have hpo2 := Paired.impl (fun _ _ => S2.item) hpo
  have hnd : (BF.ids (BF.rmv n t id).2).Nodup := by
    have r3' : ((Kvg6.itemsOfTree m0 (BF.lowAt n (BF.rmv n t id).1).2).map Item.id ++ (BF.rmv n t id).2.map Item.id).Nodup := by
      rw [← List.map_append]
      exact r3
    exact (List.nodup_append.mp r3').2.1
  refine ⟨_, rfl, Item, ItemAt K H2, fun it => PyData.int it.id, o, os, (BF.rmv n t id).2, rfl, rfl, .inl (.inl (S2 _ _ ho)), hpo2, PySem.W.AllAlike.of (fun _ _ => rfl), PySem.W.Sortable.others (fun b => ⟨fun z => (nomatch z), fun _ z => (nomatch z)⟩), fun z _ => Nat.zero_le _, ?_, fun l ls H3 hl S3 hls hps => ?_⟩
  · intro x z H3 hx _ S3 Q' hQ'
    exact ⟨x, z, rfl, S3.item hx, hQ' _ _ (Same.refl _) (.inl ⟨_, rfl, rfl⟩)⟩
  · rw [merge_sortK (key := BF.idKey) (fun a b => intD_lt _ _) (nodup_idKey hnd), ← BF.sortById_eq] at hps
    refine ⟨l, rfl, ⟨_, .inl (.inl hls)⟩, ?_⟩
    have hsp : (Kvg6.sortById (BF.rmv n t id).2).Perm (BF.rmv n t id).2 := by
      rw [BF.sortById_eq]
      exact BF.sortK_perm _
    have em : m0 = (BF.lowAt n (BF.rmv n t id).1).1 := hr2.lvl cut.good.root.ne
    refine for_list (xs := ls) (fun i σ H4 => ∃ (u : V) (m : Nat) (oo : Option V), σ = [some v, some (.int id), some (.ref p), some (.ref o), some u, oo] ∧ Same H3 H4 ∧ TreeV K H4 m u (((Kvg6.sortById (BF.rmv n t id).2).take i).foldl Kvg6.insert (BF.lowAt n (BF.rmv n t id).1).2) ∧ BF.GoodAt m (((Kvg6.sortById (BF.rmv n t id).2).take i).foldl Kvg6.insert (BF.lowAt n (BF.rmv n t id).1).2) ∧
      (Kvg6.itemsOfTree m (((Kvg6.sortById (BF.rmv n t id).2).take i).foldl Kvg6.insert (BF.lowAt n (BF.rmv n t id).1).2)).Perm (Kvg6.itemsOfTree m0 (BF.lowAt n (BF.rmv n t id).1).2 ++ (Kvg6.sortById (BF.rmv n t id).2).take i)) ?_ ?_ ?_ ?_
    · refine ⟨r, m0, _, rfl, Same.refl _, ?_, cut.good, by rw [List.take_zero, List.append_nil]; exact List.Perm.refl _⟩
      rw [em]
      exact S3.tree hr2
    · rintro i σ H4 _ ⟨u, m, oo, _, S, _⟩
      exact .inl (.inl (S _ _ hls))
    · rintro i x σ H4 hxi ⟨u, m, oo, rfl, S, hu, hg, hp⟩
      obtain ⟨it, hit, hxc⟩ := hps.get hxi
      have hitm : it ∈ (BF.rmv n t id).2 := hsp.mem_iff.mp (List.mem_of_getElem? hit)
      have hxH : ItemAt K H4 x it := (S3.trans S).item hxc
      have hmlow := hg.low
      have ha : (Kvg6.sortById (BF.rmv n t id).2).length = (BF.rmv n t id).2.length := hsp.length_eq
      have hil : i < (Kvg6.sortById (BF.rmv n t id).2).length := (List.getElem?_eq_some_iff.mp hit).1
      have hall : (BF.ids (Kvg6.itemsOfTree m0 (BF.lowAt n (BF.rmv n t id).1).2 ++ Kvg6.sortById (BF.rmv n t id).2)).Nodup := (((hsp.append_left _).map Item.id).nodup_iff).mpr r3
      have hsplit : Kvg6.sortById (BF.rmv n t id).2 = (Kvg6.sortById (BF.rmv n t id).2).take i ++ it :: (Kvg6.sortById (BF.rmv n t id).2).drop (i + 1) := by
        obtain ⟨hi, e⟩ := List.getElem?_eq_some_iff.mp hit
        rw [← e, ← List.drop_eq_getElem_cons hi, List.take_append_drop]
      have hsize : (Kvg6.itemsOfTree m (((Kvg6.sortById (BF.rmv n t id).2).take i).foldl Kvg6.insert (BF.lowAt n (BF.rmv n t id).1).2)).length < 48 := by
        rw [hp.length_eq, List.length_append, List.length_take]
        omega
      have hnot : it.id ∉ BF.ids (Kvg6.itemsOfTree m (((Kvg6.sortById (BF.rmv n t id).2).take i).foldl Kvg6.insert (BF.lowAt n (BF.rmv n t id).1).2)) := by
        intro z
        have z1 := (hp.map Item.id).mem_iff.mp z
        have hall' : ((Kvg6.itemsOfTree m0 (BF.lowAt n (BF.rmv n t id).1).2 ++ (Kvg6.sortById (BF.rmv n t id).2).take i).map Item.id ++ (it :: (Kvg6.sortById (BF.rmv n t id).2).drop (i + 1)).map Item.id).Nodup := by
          rw [← List.map_append, List.append_assoc, ← hsplit]
          exact hall
        exact (List.nodup_append.mp hall').2.2 _ z1 it.id List.mem_cons_self rfl
      obtain ⟨m2, g2, p2⟩ := BF.insert_good hg (r1 it hitm) hsize hnot
      have eta : ((Kvg6.sortById (BF.rmv n t id).2).take (i + 1)).foldl Kvg6.insert (BF.lowAt n (BF.rmv n t id).1).2 = Kvg6.insert (((Kvg6.sortById (BF.rmv n t id).2).take i).foldl Kvg6.insert (BF.lowAt n (BF.rmv n t id).1).2) it := by
        rw [List.take_add_one, hit]
        show List.foldl _ _ (_ ++ [it]) = _
        rw [List.foldl_append]
        rfl
      refine ⟨_, rfl, _, rfl, m, u, x, _, it, by omega, rfl, hu, hg.root, hxH, fun r' m' H5 S5 hm' hr' => ?_⟩
      rw [← BF.insert_eq hg.root.bal (by omega)] at hr'
      have e2 : m2 = m' := hr'.lvl g2.root.ne
      subst e2
      refine ⟨r', m2, some x, rfl, S.trans S5, by rw [eta]; exact hr', by rw [eta]; exact g2, ?_⟩
      rw [eta, List.take_add_one, hit]
      exact p2.trans ((hp.append_right [it]).trans (by rw [List.append_assoc]; exact List.Perm.refl _))
    · rintro σ H4 ⟨u, m, oo, rfl, S, hu, hg, hp⟩
      rw [hps.len, List.take_length, ← hrem] at hu hg
      exact ⟨_, rfl, k u m H4 (((S1.trans S2).trans S3).trans S) hg hu⟩
end
end BFW
namespace BFW
open PySem PySem.Spec PyProof.Rows L2 BFH
open Kvg6 (Box Item)
open BF (BoxOk ItOk)
open PySem.W (dataLt dataLe AllAlike Sortable)
section
variable {P : Program} {w : World} {K : PySem.W.Frag} {mg : Str → Option Value} {base : Heap}
/-- a reference to a list -/
def RefL (H : Hp) (v : V) (ys : List V) : Prop := ∃ g, v = .ref g ∧ H g = some (.lst ys)
theorem _root_.L2.Same.refL {H H' : Hp} {v : V} {ys : List V} (S : Same H H') (h : RefL H v ys) : RefL H' v ys := by
  obtain ⟨g, e, h⟩ := h
  exact ⟨g, e, S _ _ h⟩
def spGrouped : Sp := fun vs H Q _ => ∃ (a : Addr) (xs : List V), vs = [.ref a] ∧ H a = some (.lst xs) ∧ xs.length ≤ 100 ∧
  ∀ q gs H', H q = none → Same H H' → H' q = some (.lst gs) → Paired (RefL H') gs (Kvg6.chunks xs.length xs) → Q (.ref q) H'
theorem chunks_len {α : Type} (f : Nat) (l : List α) (h : l.length ≤ f) : (Kvg6.chunks f l).length ≤ l.length + 1 := by
  have := (BF.chunks_ok f l h).count
  omega
theorem sc_grouped : FnScope ["values", "found", "rest", "size"] ["values"] (defScope s_grouped) := ⟨rfl, rfl, rfl, by decide +kernel, rfl, by decide +kernel, by decide +kernel⟩
theorem k_grouped (T : Tx K mg) : Kn P w K mg base "grouped" 1 ["values"] (spGrouped) := by
  have F := T.fn1 38 (x := "grouped") (st := s_grouped) rfl
  have sc := sc_grouped
  obtain ⟨tMOST_ENTRIES, gMOST_ENTRIES⟩ := T.int 114 (x := "MOST_ENTRIES") rfl
  let st : Stmt := s_grouped
  let nn : List Str := ["values", "found", "rest", "size"]
  refine ⟨F.ok sc (fun vs H Q E h => ?_) (fun cdv A outer s H vs Q E hr h => ?_), F.binds fun _ _ _ _ _ _ us hl => match us, hl with | [_], _ => rfl, F.kp, T.glo 35⟩

  · obtain ⟨a, xs, rfl, _⟩ := h
    rfl
  obtain ⟨a, xs, rfl, ha, h100, k⟩ := h
  refine ⟨_, (pss_cons (ps_par (i := 1) (j := 2) rfl sc.nd rfl rfl (by decide) rfl rfl (pa_cons (pe_lst pa_nil) (pa_cons (pv 0) pa_nil)) (by rfl))
      (pss_cons (ps_while PassesOwn.never (pt_cmpR op_gt (pe_callB call_len_seq (by rfl) (T.free 91) PySem.boot_len (pa_cons (pv 2) pa_nil)) (pe_glob (v := .int (4)) rfl gMOST_ENTRIES ⟨_, rfl⟩) (nomark _)) (pss_cons (ps_set (i := 3) sc.nd rfl (Or.inl rfl) (pe_ifExp (pt_cmpR op_eq (pe_callB call_len_seq (by rfl) (T.free 91) PySem.boot_len (pa_cons (pv 2) pa_nil)) pe_int (nomark _)) pe_int pe_int))
      (pss_cons (ps_expr (pe_bm PySem.F.plainAttrs_list PySem.F.slot_list_append PySem.F.type_list_append mt_append (pv 1) (pa_cons (pe_slice sl_list (pv 2) po_none (po_some (pv 3))) pa_nil)))
      (pss_one (ps_set (i := 2) sc.nd rfl (Or.inl rfl) (pe_slice sl_list (pv 2) (po_some (pv 3)) po_none))))))
      (pss_cons (ps_expr (pe_bm PySem.F.plainAttrs_list PySem.F.slot_list_append PySem.F.type_list_append mt_append (pv 1) (pa_cons (pv 2) pa_nil)))
      (pss_one (ps_ret (pv 1)))))), ?_⟩
  refine ⟨Nat.zero_le _, fun f hf => ⟨_, rfl, _, _, rfl, ?_⟩⟩
  have S0 := Same.upd (o := .lst []) hf
  have hfa : f ≠ a := (ne_of_none ha hf).symm
  refine ⟨fun m σ H1 => ∃ (r : Addr) (xr gs : List V) (done : List (List V)) (o : Option V) (fl : Nat), σ = [some (.ref a), some (.ref f), some (.ref r), o] ∧ m = xr.length ∧ Same H H1 ∧ H1 f = some (.lst gs) ∧ r ≠ f ∧ H1 r = some (.lst xr) ∧ Paired (RefL (off H1 f)) gs done ∧ xr.length ≤ fl ∧ gs.length + xr.length ≤ 200 ∧ done ++ Kvg6.chunks fl xr = Kvg6.chunks xs.length xs, ⟨_, a, xs, [], [], _, xs.length, rfl, rfl, S0, upd_same, hfa.symm, S0 _ _ ha, .nil, Nat.le_refl _, by simp; omega, rfl⟩, ?_⟩
  rintro m σ H1 ⟨r, xr, gs, done, o, fl, rfl, rfl, S, hgs, hrf, hxr, hp, hfl, h200, he⟩
  refine ⟨_, rfl, r, xr, rfl, .inl (.inl (.inl hxr)), _, _, rfl, rfl, _, rfl, ?_⟩
  by_cases c : 4 < xr.length
  · rw [decide_eq_true (by omega)]
    obtain ⟨fl, rfl⟩ : ∃ n, fl = n + 1 := ⟨fl - 1, by omega⟩
    have fin : ∀ sz : Nat, 3 ≤ sz → sz ≤ 4 → (xr.length ≠ 5 → sz = 4) → Kvg6.chunks (fl + 1) xr = xr.take sz :: Kvg6.chunks fl (xr.drop sz) →
        (tSeq (tDrop (tBM K "list" rAppend (tVar 1) (tCons (tSl (rSlL K) (tVar 2) tNoPart (tPart (tVar 3))) tNil))) (tAsg (tSl (rSlL K) (tVar 2) (tPart (tVar 3)) tNoPart) (gName 2)) : TS)
          { nx := fun σ' H' => ∃ m', m' < xr.length ∧ ∃ (r : Addr) (xr gs : List V) (done : List (List V)) (o : Option V) (fl : Nat), σ' = [some (.ref a), some (.ref f), some (.ref r), o] ∧ m' = xr.length ∧ Same H H' ∧ H' f = some (.lst gs) ∧ r ≠ f ∧ H' r = some (.lst xr) ∧ Paired (RefL (off H' f)) gs done ∧ xr.length ≤ fl ∧ gs.length + xr.length ≤ 200 ∧ done ++ Kvg6.chunks fl xr = Kvg6.chunks xs.length xs, rt := Q,
            ct := fun σ' H' => ∃ m', m' < xr.length ∧ ∃ (r : Addr) (xr gs : List V) (done : List (List V)) (o : Option V) (fl : Nat), σ' = [some (.ref a), some (.ref f), some (.ref r), o] ∧ m' = xr.length ∧ Same H H' ∧ H' f = some (.lst gs) ∧ r ≠ f ∧ H' r = some (.lst xr) ∧ Paired (RefL (off H' f)) gs done ∧ xr.length ≤ fl ∧ gs.length + xr.length ≤ 200 ∧ done ++ Kvg6.chunks fl xr = Kvg6.chunks xs.length xs,
            bk := fun σ' H' => tSeq (tDrop (tBM K "list" rAppend (tVar 1) (tCons (tVar 2) tNil))) (tRet (tVar 1)) { nx := fun _ H' => Q .non H', rt := Q } σ' H' } [some (.ref a), some (.ref f), some (.ref r), some (.int (sz : Nat))] H1 := by
      intro sz s3 s4 s5 hch
      refine ⟨_, rfl, .inl ⟨rfl, _, .inl (.inl hgs)⟩, _, rfl, _, rfl, _, rfl, r, xr, rfl, .inl (.inl hxr), fun p hp0 => ?_⟩
      rw [cut_lo (by omega)]
      have Sp := Same.upd (o := .lst (xr.take sz)) hp0
      have hpf : p ≠ f := (ne_of_none hgs hp0).symm
      have hpr : p ≠ r := (ne_of_none hxr hp0).symm
      refine ⟨f, gs, _, rfl, rfl, Sp _ _ hgs, Nat.lt_of_le_of_lt (show gs.length ≤ 200 by omega) (by decide), ?_⟩
      have hx3 : upd (upd H1 p (.lst (xr.take sz))) f (.lst (gs ++ [.ref p])) r = some (.lst xr) := by rw [upd_ne hrf, upd_ne hpr.symm]; exact hxr
      have hp3 : upd (upd H1 p (.lst (xr.take sz))) f (.lst (gs ++ [.ref p])) p = some (.lst (xr.take sz)) := by rw [upd_ne hpf]; exact upd_same
      have hoff : off (upd (upd H1 p (.lst (xr.take sz))) f (.lst (gs ++ [.ref p]))) f = off (upd H1 p (.lst (xr.take sz))) f := off_upd
      have hf3 := upd_same (H := upd H1 p (.lst (xr.take sz))) (a := f) (o := .lst (gs ++ [.ref p]))
      have S3 : Same H (upd (upd H1 p (.lst (xr.take sz))) f (.lst (gs ++ [.ref p]))) := (S.trans Sp).upd2 hf
      generalize upd (upd H1 p (.lst (xr.take sz))) f (.lst (gs ++ [.ref p])) = H3 at *
      refine ⟨_, rfl, _, rfl, _, rfl, r, xr, rfl, .inl (.inl hx3), fun p2 hp2 => ?_⟩
      rw [cut_hi (j := sz) rfl (by omega)]
      have S4 := Same.upd (o := .lst (xr.drop sz)) hp2
      have hpf2 : p2 ≠ f := (ne_of_none hf3 hp2).symm
      refine ⟨(xr.drop sz).length, by rw [List.length_drop]; omega, p2, xr.drop sz, gs ++ [.ref p], done ++ [xr.take sz], _, fl, rfl, rfl, S3.trans S4, S4 _ _ hf3, hpf2, upd_same, ?_, by rw [List.length_drop]; omega, by rw [List.length_append, List.length_singleton, List.length_drop]; omega, ?_⟩
      · refine Paired.app (Paired.impl (fun _ _ h => (Same.off S4).refL (by rw [hoff]; exact (Same.off Sp).refL h)) hp) (.cons ⟨p, rfl, ?_⟩ .nil)
        exact off_at (S4 _ _ hp3) hpf
      · rw [← he, hch, List.append_assoc]
        rfl
    refine iteT ⟨_, fun σ' H' h => h, ?_⟩
    refine ⟨_, rfl, r, xr, rfl, .inl (.inl (.inl hxr)), rfl, _, rfl, ?_⟩
    by_cases c5 : xr.length = 5
    · rw [decide_eq_true (by rw [c5]; rfl)]
      exact iteT (fin 3 (by omega) (by omega) (fun z => absurd c5 z) (BF.chunks_five fl fl c5))
    · rw [decide_eq_false (fun z => by injection z with z; omega)]
      exact iteF (fin 4 (by omega) (by omega) (fun _ => rfl) (BF.chunks_more fl (by omega)))
  · rw [decide_eq_false (by omega)]
    refine iteF ⟨_, rfl, .inl ⟨rfl, _, .inl (.inl hgs)⟩, _, rfl, f, gs, _, rfl, rfl, hgs, Nat.lt_of_le_of_lt (show gs.length ≤ 200 by omega) (by decide), _, rfl, ?_⟩
    have S3 : Same H (upd H1 f (.lst (gs ++ [.ref r]))) := S.upd2 hf
    refine k f _ _ hf S3 upd_same ?_
    rw [← he, BF.chunks_small fl (by omega)]
    have e1 : Same (off H1 f) (upd H1 f (.lst (gs ++ [.ref r]))) := by
      rw [← off_upd (o := .lst (gs ++ [.ref r]))]
      exact off_same
    refine Paired.app (Paired.impl (fun _ _ h => e1.refL h) hp) (.cons ⟨r, rfl, ?_⟩ .nil)
    rw [upd_ne hrf]
    exact hxr
def spCurve (K : PySem.W.Frag) : Sp := fun vs H Q _ => ∃ (v : V) (it : Item), vs = [v] ∧ ItemAt K H v it ∧ ∀ u H', Same H H' → KeyT H' u (BF.hKey it) → Q u H'
theorem sc_curve_key : FnScope ["item"] ["item"] (defScope s_curve_key) := ⟨rfl, rfl, rfl, by decide +kernel, rfl, by decide +kernel, by decide +kernel⟩
theorem k_curve_key (T : Tx K mg) : Kn P w K mg base "curve_key" 3 ["item"] (spCurve K) := by
  have F := T.fn1 39 (x := "curve_key") (st := s_curve_key) rfl
  have sc := sc_curve_key
  let st : Stmt := s_curve_key
  let nn : List Str := ["item"]
  refine ⟨F.ok sc (fun vs H Q E h => ?_) (fun cdv A outer s H vs Q E hr h => ?_), F.binds fun _ _ _ _ _ _ us hl => match us, hl with | [_], _ => rfl, F.kp, T.glo 36⟩

  · obtain ⟨v, it, rfl, _⟩ := h
    rfl
  obtain ⟨v, it, rfl, hv, k⟩ := h
  refine ⟨_, (pss_one (ps_ret (pe_tup (pa_cons (kc (k_hilbert T) hr (pa_cons (pe_fld (pv 0) rfl) pa_nil)) (pa_cons (pe_fld (pv 0) rfl) pa_nil))))), ?_⟩
  obtain ⟨a, dx, q, rfl, h1, h2⟩ := hv
  refine ⟨_, rfl, _, _, _, _, _, rfl, h1, (kcl_Item T).cl, no_Item_box T, itF_box, q, it.box, rfl, h2, fun H1 S1 => ?_⟩
  refine ⟨_, rfl, _, _, _, _, _, rfl, S1 _ _ h1, (kcl_Item T).cl, no_Item_number T, itF_number, by show 2 ≤ sizeLine; decide, fun p hp => ?_⟩
  exact k _ _ (S1.upd3 hp) ⟨p, rfl, upd_same⟩
theorem chunks_paired {α β : Type} {R : α → β → Prop} : ∀ (f : Nat) {l : List α} {m : List β}, Paired R l m → Paired (Paired R) (Kvg6.chunks f l) (Kvg6.chunks f m)
  | 0, _, _, h => .cons h .nil
  | f + 1, l, m, h => by
    have e := h.len
    by_cases h4 : l.length ≤ 4
    · rw [BF.chunks_small _ h4, BF.chunks_small _ (by omega)]
      exact .cons h .nil
    · by_cases h5 : l.length = 5
      · rw [BF.chunks_five f f h5, BF.chunks_five f f (by omega)]
        exact .cons (h.takeP 3) (chunks_paired f (h.dropP 3))
      · rw [BF.chunks_more f (by omega), BF.chunks_more f (by omega)]
        exact .cons (h.takeP 4) (chunks_paired f (h.dropP 4))
theorem nodup_hKey {l : List Item} (h : (BF.ids l).Nodup) : (l.map BF.hKey).Nodup := by
  refine List.pairwise_map.mpr ((List.pairwise_map.mp h).imp fun {a b} hne e => hne ?_)
  have e2 : [(Kvg6.hilbertOf a.box : Int), (a.id : Int)] = [(Kvg6.hilbertOf b.box : Int), (b.id : Int)] := e
  injection e2 with _ e3
  injection e3 with e4
  exact Int.ofNat.inj e4
def spBulk (K : PySem.W.Frag) : Sp := fun vs H Q _ => ∃ (a : Addr) (xs : List V) (items : List Item), vs = [.ref a] ∧ H a = some (.lst xs) ∧ Paired (ItemAt K H) xs items ∧ items.length ≤ 48 ∧ (BF.ids items).Nodup ∧
  ∀ r m H', Same H H' → TreeV K H' m r (Kvg6.bulkLoad items) → Q r H'
/-- groups of nodes in the heap -/
def GrpV {α : Type} (R : Hp → V → α → Prop) (H : Hp) (v : V) (ts : List α) : Prop := ∃ g ys, v = .ref g ∧ H g = some (.lst ys) ∧ Paired (R H) ys ts
theorem grp_of {α : Type} {R : Hp → V → α → Prop} {H : Hp} : ∀ {gs : List V} {cs : List (List V)} {ts : List (List α)}, Paired (RefL H) gs cs → Paired (Paired (R H)) cs ts → Paired (GrpV R H) gs ts
  | _, _, _, .nil, h => by
    cases h
    exact .nil
  | _, _, _, .cons ⟨g, e, h⟩ t, h' => by
    cases h' with
    | cons a b => exact .cons ⟨g, _, e, h, a⟩ (grp_of t b)
theorem sc_bulk_loaded : FnScope ["items", "nodes", "level", "group"] ["items"] (defScope s_bulk_loaded) := ⟨rfl, rfl, rfl, by decide +kernel, rfl, by decide +kernel, by decide +kernel⟩
theorem k_bulk_loaded (T : Tx K mg) : Kn P w K mg base "bulk_loaded" 6 ["items"] (spBulk K) := by
  have F := T.fn1 40 (x := "bulk_loaded") (st := s_bulk_loaded) rfl
  have sc := sc_bulk_loaded
  let st : Stmt := s_bulk_loaded
  let nn : List Str := ["items", "nodes", "level", "group"]
  refine ⟨F.ok sc (fun vs H Q E h => ?_) (fun cdv A outer s H vs Q E hr h => ?_), F.binds fun _ _ _ _ _ _ us hl => match us, hl with | [_], _ => rfl, F.kp, T.glo 37⟩

  · obtain ⟨a, xs, items, rfl, _⟩ := h
    rfl
  obtain ⟨a, xs, items, rfl, ha, hx, h48, hnd, k⟩ := h
  refine ⟨_, (pss_cons (ps_setLc (i := 1) (own := [("group", 3)]) (g := gName 3) (tt := tYes) rfl sc.nd rfl rfl (sw_true rfl rfl rfl (by decide +kernel)) (pi_list (kc (k_grouped T) hr (pa_cons (pe_callBK (cr_sortK (k_curve_key T) hr) (by rfl) (T.free 96) boot_sorted (pa_cons (pv 0) pa_nil) (pk_cons (pe_glob (v := .ref (He.ga K "curve_key")) rfl (T.glo 36) rfl) pk_nil)) pa_nil))) (blkOk_by (N := nn) (sc := defScope st) (by decide +kernel)) (fun _ _ _ _ _ => (pg_name (i := 3) sc.nd rfl (Or.inl rfl))) (fun _ _ _ _ _ => pts_nil) (fun _ _ _ _ _ => (kmK (K := K) rfl (k_Node_init T) hr (pa_cons pe_int (pa_cons (pv 3) pa_nil)))))
      (pss_cons (ps_while PassesOwn.never (pt_cmpR op_gt (pe_callB call_len_seq (by rfl) (T.free 91) PySem.boot_len (pa_cons (pv 1) pa_nil)) pe_int (nomark _)) (pss_cons (ps_set (i := 2) sc.nd rfl (Or.inr rfl) (pe_op op_add (pe_fld (pe_ix ix_list (pv 1) pe_int (fun _ _ => rfl)) rfl) pe_int))
      (pss_one (ps_setLc (i := 1) (own := [("group", 3)]) (g := gName 3) (tt := tYes) rfl sc.nd rfl rfl (sw_true rfl rfl rfl (by decide +kernel)) (pi_list (kc (k_grouped T) hr (pa_cons (pv 1) pa_nil))) (blkOk_by (N := nn) (sc := defScope st) (by decide +kernel)) (fun _ _ _ _ _ => (pg_name (i := 3) sc.nd rfl (Or.inl rfl))) (fun _ _ _ _ _ => pts_nil) (fun _ _ _ _ _ => (kmK (K := K) rfl (k_Node_init T) hr (pa_cons (pv 2) (pa_cons (pv 3) pa_nil))))))))
      (pss_one (ps_ret (pe_ix ix_list (pv 1) pe_int (fun _ _ => rfl)))))), ?_⟩
  refine ⟨_, rfl, Item, ItemAt K H, fun it => tD (BF.hKey it), a, xs, items, rfl, rfl, .inl (.inl ha), hx, PySem.W.AllAlike.of (fun _ _ => tD_alike _ _), PySem.W.Sortable.tuples (fun b => ⟨_, _, rfl⟩), fun z _ => by rw [tD_depth]; exact Nat.le_refl _, ?_, fun l ls H1 hl S1 hls hps => ?_⟩
  · intro x z H3 hx _ S3 Q' hQ'
    exact ⟨x, z, rfl, S3.item hx, fun u H4 S4 hu => hQ' u H4 S4 (.inr ⟨_, hu, rfl⟩)⟩
  · rw [merge_sortK (key := BF.hKey) (fun a b => tD_lt _ _) (nodup_hKey hnd), ← BF.sortByHilbert_eq] at hps
    have hsl : (Kvg6.sortByHilbert items).length = items.length := by
      rw [BF.sortByHilbert_eq]
      exact (BF.sortK_perm _).length_eq
    have hlsl : ls.length = items.length := by rw [hps.len, hsl]
    obtain ⟨lv, _, lc, lp⟩ := BF.leaves_ok items
    have hfew := (BF.chunks_ok items.length (Kvg6.sortByHilbert items) (by omega)).few
    refine ⟨l, ls, rfl, hls, by omega, fun q gs H2 hq S2 hgs hpg => ?_⟩
    rw [hlsl] at hpg
    have hps2 := Paired.impl (fun _ _ => (S1.trans S2).item) hps
    have hgg : Paired (GrpV (ItemAt K) H2) gs (Kvg6.chunks items.length (Kvg6.sortByHilbert items)) := grp_of hpg (chunks_paired _ hps2)
    have hgl := hgg.len
    have hcl : (Kvg6.chunks items.length (Kvg6.sortByHilbert items)).length = (BF.leaves items).length := by
      unfold BF.leaves
      rw [List.length_map]
    refine ⟨q, rfl, ⟨_, .inl (.inl hgs)⟩, ?_⟩
    refine lc_li (R0 := GrpV (ItemAt K) H2) (Kvg6.chunks items.length (Kvg6.sortByHilbert items)) (fun _ => true) (fun H' u z => TreeV K H' 0 u (.leaf z)) hgg ?_ ?_ ?_ ?_ ?_ ?_ ?_
    · exact fun H2 S => .inl (.inl (S _ _ hgs))
    · exact Nat.lt_of_le_of_lt (show gs.length ≤ 100 by omega) (by decide)
    · exact fun _ _ _ _ S h => S.tree h
    · exact fun _ => rfl
    · exact fun x z H1 _ _ _ k hk => hk H1 (Same.refl H1)
    · rintro x z H3 D acc ⟨g, ys, rfl, hg, hpy⟩ hz _ S S' hD k hk
      have h4 := hfew z hz
      have hents := Paired.mapR (f := Item.box) (Paired.impl (fun u it (h : ItemAt K H2 u it) => h.ent) hpy)
      refine ⟨_, rfl, make_node S hg hents (by rw [hpy.len]; omega) fun x dx bv H4 hx S4 z1 z2 => hk _ _ S4 ?_⟩
      exact ⟨h4, ys, node_off (S'.trans (Same.off S4)) hg hents z1 z2 (S4 _ _ hD), Paired.impl (fun _ _ => (S'.trans (Same.off S4)).item) hpy⟩
    · intro D H3 ns hD S3 hns hpn
      rw [show (Kvg6.chunks items.length (Kvg6.sortByHilbert items)).filter (fun _ => true) = Kvg6.chunks items.length (Kvg6.sortByHilbert items) from List.filter_eq_self.mpr fun _ _ => rfl] at hpn
      have hpn' : Paired (TreeV K H3 0) ns (BF.leaves items) := Paired.mapR (Paired.impl (fun _ _ => off_same.tree) hpn)
      refine ⟨fun m σ H4 => ∃ (nd : Addr) (o : Option V) (ns : List V) (ts : List Kvg6.Tree) (kk fl : Nat), σ = [some (.ref a), some (.ref nd), o, none] ∧ m = ts.length ∧ Same H H4 ∧ H4 nd = some (.lst ns) ∧ Paired (TreeV K H4 kk) ns ts ∧ BF.Level kk ts ∧ kk + ts.length ≤ 13 ∧ ts.length ≤ fl ∧ Kvg6.build fl ts = Kvg6.bulkLoad items, ⟨_, D, none, ns, BF.leaves items, 0, 16, rfl, rfl, (S1.trans S2).trans S3, hns, hpn', lv, by omega, by omega, (BF.bulk_eq items).symm⟩, ?_⟩
      rintro m σ H4 ⟨nd, o, ns, ts, kk, fl, rfl, rfl, S4, hnd2, hpt, hlv, hk13, hfl, hb⟩
      refine ⟨_, rfl, nd, ns, rfl, .inl (.inl (.inl hnd2)), _, _, rfl, rfl, _, rfl, ?_⟩
      have htl := hpt.len
      rcases hlv with ⟨t, rfl, hr1⟩ | ⟨h2, hf⟩
      · rw [decide_eq_false (by rw [htl]; show ¬ (1 : Int) < 1; omega)]
        cases hpt with
        | cons y1 y2 =>
          cases y2
          rw [BF.build_one] at hb
          refine iteF ⟨_, rfl, nd, _, 0, _, rfl, rfl, .inl (.inl hnd2), rfl, k _ kk H4 S4 ?_⟩
          rw [← hb]
          exact y1
      · rw [decide_eq_true (by omega)]
        obtain ⟨fl, rfl⟩ : ∃ n, fl = n + 1 := ⟨fl - 1, by omega⟩
        rw [BF.build_more fl h2] at hb
        have hck := BF.chunks_ok ts.length ts (Nat.le_refl _)
        have hless := hck.less h2
        obtain ⟨lv2, _⟩ := BF.level_up h2 hf
        refine iteT ⟨fun σ' H' => ∃ m', m' < ts.length ∧ ∃ (nd : Addr) (o : Option V) (ns : List V) (ts : List Kvg6.Tree) (kk fl : Nat), σ' = [some (.ref a), some (.ref nd), o, none] ∧ m' = ts.length ∧ Same H H' ∧ H' nd = some (.lst ns) ∧ Paired (TreeV K H' kk) ns ts ∧ BF.Level kk ts ∧ kk + ts.length ≤ 13 ∧ ts.length ≤ fl ∧ Kvg6.build fl ts = Kvg6.bulkLoad items, fun σ' H' h => h, ?_⟩
        obtain ⟨t0, ht0⟩ : ∃ t, ts[0]? = some t := ⟨_, List.getElem?_eq_getElem (by omega)⟩
        obtain ⟨x0, hx0, hxt⟩ := hpt.get2 ht0
        obtain ⟨p0, dx0, e0, bv0, xs0, rfl, ta0⟩ := hxt.at_
        refine ⟨_, rfl, nd, ns, 0, _, rfl, rfl, .inl (.inl hnd2), at_of (j := 0) rfl hx0, _, _, _, _, _, rfl, ta0.node, (kcl_Node T).cl, no_Node_level T, ndF_level, _, _, rfl, rfl, ?_⟩
        refine ⟨_, rfl, nd, ns, rfl, hnd2, by omega, fun q2 gs2 H5 hq2 S5 hgs2 hpg2 => ?_⟩
        rw [htl] at hpg2
        have hpt5 := Paired.impl (fun _ _ => S5.tree (n := kk)) hpt
        have hgg2 : Paired (GrpV (fun H => TreeV K H kk) H5) gs2 (Kvg6.chunks ts.length ts) := grp_of hpg2 (chunks_paired _ hpt5)
        have hgl2 := hgg2.len
        refine ⟨q2, rfl, ⟨_, .inl (.inl hgs2)⟩, ?_⟩
        refine lc_li (R0 := GrpV (fun H => TreeV K H kk) H5) (Kvg6.chunks ts.length ts) (fun _ => true) (fun H' u z => TreeV K H' (kk + 1) u (.node z)) hgg2 ?_ ?_ ?_ ?_ ?_ ?_ ?_
        · exact fun H2 S => .inl (.inl (S _ _ hgs2))
        · exact Nat.lt_of_le_of_lt (show gs2.length ≤ 100 by omega) (by decide)
        · exact fun _ _ _ _ S h => S.tree h
        · exact fun _ => rfl
        · exact fun x z H1 _ _ _ k hk => hk H1 (Same.refl H1)
        · rintro x z H6 D2 acc ⟨g, ys, rfl, hg, hpy⟩ hz _ S S' hD k hk
          have h4 := hck.few z hz
          have hzf : ∀ t ∈ z, BF.Full kk t := fun t ht => hf t (by rw [← hck.flat]; exact List.mem_flatten.mpr ⟨z, hz, ht⟩)
          have hents := fulls_ent (by omega) hpy hzf
          refine ⟨_, rfl, _, rfl, make_node S hg hents (by rw [hpy.len]; omega) fun x dx bv H7 hx S7 z1 z2 => hk _ _ S7 ?_⟩
          refine ⟨h4, ys, ?_, Paired.impl (fun _ _ => (S'.trans (Same.off S7)).tree) hpy⟩
          have h9 := node_off (S'.trans (Same.off S7)) hg hents z1 z2 (S7 _ _ hD)
          rw [show ((kk : Int) + 2) = (kk : Int) + 1 + 1 by omega]
          exact h9
        · intro D2 H6 ns2 hD2 S6 hns2 hpn2
          rw [show (Kvg6.chunks ts.length ts).filter (fun _ => true) = Kvg6.chunks ts.length ts from List.filter_eq_self.mpr fun _ _ => rfl] at hpn2
          refine ⟨((Kvg6.chunks ts.length ts).map Kvg6.Tree.node).length, by rw [List.length_map]; omega, D2, _, ns2, _, kk + 1, fl, rfl, rfl, (S4.trans S5).trans S6, hns2, Paired.mapR (Paired.impl (fun _ _ => off_same.tree) hpn2), lv2, by rw [List.length_map]; omega, by rw [List.length_map]; omega, hb⟩
end
end BFW
namespace BFW
open PySem PySem.Spec PyProof.Rows L2 BFH
theorem oexB_ok {K : PySem.W.Frag} {C : Addr} (h : oexB K C = true) : ∃ nm q N bs bm sn sub ab col dd k0 k1 k2 k3 k5, K.lookup C = some (excClassObj nm q C N bs bm true sn sub ab col dd k0 k1 k2 k3 k5 "ValueError.__new__") ∧ PySem.HandSPX.refsVE bm = true := by
  unfold oexB at h
  split at h
  · rename_i od cd sl hl
    split at h
    · rename_i C' bm x0 x1 x2 x3 n x5 hm hs
      simp only [Bool.and_eq_true, beq_iff_eq, Bool.not_eq_true'] at h
      obtain ⟨rfl, rfl, h1, h2, h3⟩ := h
      obtain ⟨nm, bs, mro, N, q, hd, sn, sub, ab, col, del⟩ := cd
      simp only at hm h1 h2
      subst hm h1 h2
      have e : sl = #[x0, x1, x2, x3, some (.builtin "ValueError.__new__"), x5] := by
        rw [← Array.toList_inj, hs]
      subst e
      exact ⟨nm, q, N, bs, bm, sn, sub, ab, col, od, x0, x1, x2, x3, x5, hl, h3⟩
    · cases h
  · cases h
theorem veInit (K : PySem.W.Frag) : PySem.W.findCls K (.type "ValueError") (.type "type") "__init__" = some (.val (.builtin "ValueError.__init__")) := by
  first | rfl | kernel_rfl | with_unfolding_all rfl
section
variable {P : Program} {w : World} {K : PySem.W.Frag} {mg : Str → Option Value} {base : Heap}
structure RefT (K : PySem.W.Frag) : Prop where
  oex : OexC K (He.ga K "Refused")
  xf : XfC K (He.ga K "Refused")
  init : PySem.W.findIn K (.ref (He.ga K "Refused")) "__init__" = some (some (.ref (He.ma K (He.ga K "Refused") "__init__")))
  tI : PySem.W.typeIn K (.ref (He.ma K (He.ga K "Refused") "__init__")) = some (.type "function")
  code : PySem.W.findIn K (.ref (He.ga K "Refused")) "code" = some none
  exm : PySem.W.exmOne K (.ref (He.ga K "Refused")) (.ref (He.ga K "Refused")) = some true
  shp : shapesB K = true
theorem refT (T : Tx K mg) : RefT K := by
  have m := T.more
  unfold moreB at m
  rw [Bool.and_eq_true, Bool.and_eq_true, Bool.and_eq_true, Bool.and_eq_true, Bool.and_eq_true, Bool.and_eq_true, Bool.and_eq_true, Bool.and_eq_true] at m
  obtain ⟨_, h1, h2, h3, h4, h5, h6, h7, h8⟩ := m
  refine ⟨⟨oexB_ok h1, of_decide_eq_true h3, of_decide_eq_true h6, of_decide_eq_true h7, He.keep_ok (T.fact 147)⟩, xfB_ok h2, of_decide_eq_true h4, of_decide_eq_true h5, He.noat_ok (T.fact 120), He.exm_ok (T.fact 148), h8⟩
def spRI (K : PySem.W.Frag) : Sp := fun vs H Q _ => ∃ (a : Addr) (c : Int), vs = [.ref a, .int c] ∧ H a = some (exo a (He.ga K "Refused") none) ∧
  ∀ dx, H dx = none → dx ≠ a → Q .non (upd (upd H dx (exd dx [("code", .int c)])) a (exo a (He.ga K "Refused") (some dx)))
theorem sc_Refused_init : FnScope ["self", "code"] ["self", "code"] (defScope s_Refused_init) := ⟨rfl, rfl, rfl, by decide +kernel, rfl, by decide +kernel, by decide +kernel⟩
theorem f_Refused_init (T : Tx K mg) : FnOk P w K mg base CX0 1 (He.ma K (He.ga K "Refused") "__init__") (fdo K ("Refused", some "__init__")) ["self", "code"] (spRI K) ∧ Binds K (fdo K ("Refused", some "__init__")) ["self", "code"] [] := by
  have F := T.fn2 0 (c := "Refused") (m := "__init__") (q := "Refused.__init__") (st := s_Refused_init) rfl
  have sc := sc_Refused_init
  refine ⟨F.ok sc (fun vs H Q E h => ?_) (fun cdv A outer s H vs Q E hr h => ?_), F.binds fun _ _ _ _ _ _ us hl => match us, hl with | [_, _], _ => rfl⟩
  · obtain ⟨a, c, rfl, _⟩ := h
    rfl
  obtain ⟨a, c, rfl, ha, k⟩ := h
  refine ⟨_, (pss_cons (ps_expr (pe_veinit (by rfl) (T.free 103) (veInit K) (pa_cons (pv 0) (pa_cons pe_str pa_nil)))) (pss_one (ps_ost (pv 0) (pv 1)))), ?_⟩
  refine ⟨_, rfl, a, _, _, rfl, by show 1 ≤ 1000; decide, (refT T).oex, ha, ?_⟩
  exact ⟨_, rfl, _, rfl, a, _, rfl, (refT T).oex, (refT T).code, .inl ⟨ha, fun dx hdx hne => k dx hdx hne⟩⟩
/-- the error with a code -/
def Err (K : PySem.W.Frag) (E : XK) (H : Hp) (c : Int) : Prop := ∀ H' d, Same H H' → H' d = some (.xd [("code", .int c)]) → E (.ref (He.ga K "Refused")) (some d) H'
theorem Err.same {E : XK} {H H1 : Hp} {c : Int} (h : Err K E H c) (S : Same H H1) : Err K E H1 c := fun H' d S2 hd => h H' d (S.trans S2) hd
def spNeedX (K : PySem.W.Frag) : Sp := fun vs H Q E => ∃ (b : Bool) (c : Int), vs = [.bl b, .int c] ∧ (b = true → Q .non H) ∧ (b = false → Err K E H c)
theorem sc_need : FnScope ["condition", "code"] ["condition", "code"] (defScope s_need) := ⟨rfl, rfl, rfl, by decide +kernel, rfl, by decide +kernel, by decide +kernel⟩
theorem k_need (T : Tx K mg) : KnX P w K mg base "need" 3 ["condition", "code"] (spNeedX K) := by
  have F := T.fn1 1 (x := "need") (st := s_need) rfl
  have sc := sc_need
  refine ⟨F.okX sc (fun vs H Q E h => ?_) (fun cdv A outer s H vs Q E hr h => ?_), F.binds fun _ _ _ _ _ _ us hl => match us, hl with | [_, _], _ => rfl, F.kp, T.glo 0⟩
  · obtain ⟨b, c, rfl, _⟩ := h
    rfl
  obtain ⟨b, c, rfl, k1, k2⟩ := h
  obtain ⟨f1, f2⟩ := f_Refused_init (P := P) (w := w) (base := base) T
  refine ⟨_, (pss_one (ps_if (pt_not (pt_val (pv 0))) (pss_one (ps_raise rfl (takes_of rfl rfl rfl rfl) (pmk_oex (C := He.ga K "Refused") (refT T).oex (refT T).init (refT T).tI f1 (hr.mono (by decide)) f2 .nil pass0 (by rfl) (T.glo 85) (pa_cons (pv 1) pa_nil)))) pss_nil)), ?_⟩
  refine ⟨_, rfl, b, rfl, ?_⟩
  cases b with
  | true => exact iteF (k1 rfl)
  | false =>
    refine iteT ⟨_, rfl, by show 1 ≤ 1000; decide, fun a ha => ⟨a, c, rfl, upd_same, fun dx hdx hne => ⟨rfl, dx, [("code", .int c)], upd_same, ?_, ?_, ?_⟩⟩⟩
    · rw [upd_ne hne]
      exact upd_same
    · rw [upd_ne hne] at hdx
      exact hdx
    · rw [upd_ne hne] at hdx
      refine k2 rfl _ dx (fun b o e => ?_) upd_same
      have h1 : b ≠ dx := ne_of_none e hdx
      have h2 : b ≠ a := ne_of_none e ha
      rw [upd_ne h1]
      show (if b = a then none else _) = _
      rw [if_neg h2, upd_ne h2, upd_ne h1, upd_ne h2]
      exact e
end
end BFW
namespace BFW
open PySem PySem.Spec PyProof.Rows L2 BFH
open Kvg6 (Box Item)
open BF (BoxOk ItOk)
/-! ### len(set(xs)), xs ints -/
theorem dedup_len (val : Nat → Int) : ∀ i, (firstMet val i).length = i → ((List.range i).map val).Nodup
  | 0, _ => List.nodup_nil
  | i + 1, h => by
    have hle := firstMet_length_le val i
    have e : firstMet val (i + 1) = if (firstMet val i).any (· == val i) then firstMet val i else firstMet val i ++ [val i] := firstMet_succ val i
    rw [e] at h
    cases c : (firstMet val i).any (· == val i) with
    | true =>
      rw [c, if_pos rfl] at h
      omega
    | false =>
      rw [c, if_neg (by decide), List.length_append, List.length_singleton] at h
      have ih := dedup_len val i (by omega)
      rw [firstMet_any] at c
      rw [List.range_succ, List.map_append, List.nodup_append]
      refine ⟨ih, by simp, fun a ha b hb => ?_⟩
      have e2 : b = val i := by simpa using hb
      subst e2
      intro z
      have := List.any_eq_false.mp c a ha
      simp [z] at this
theorem range_getD (ns : List Int) : (List.range ns.length).map (fun i => ns.getD i 0) = ns := by
  refine List.ext_getElem (by simp) fun i h1 h2 => ?_
  rw [List.getElem_map, List.getElem_range, List.getD_eq_getElem?_getD, List.getElem?_eq_getElem h2]
  rfl
def tLenSetD (K : PySem.W.Frag) (ta : TE) : TE := fun σ H Q => ta σ H fun x H1 => ∃ (l : Addr) (ns : List Int), x = .ref l ∧ SqL K H1 l (ns.map V.int) ∧ ns.length ≤ 4000 ∧ ∀ n : Nat, (n = ns.length ↔ ns.Nodup) → Q (.int (n : Nat)) H1
theorem pe_lenSetD {X : Cx} {a : Expr} {ta : TE} {p p2 q pos : Pos} (hg : Gl X "len") (hm : X.mg "len" = none) (hg2 : Gl X "set") (hm2 : X.mg "set" = none) (ha : PE X a ta) (hc : X.calm = true := by rfl)
    (na : starEach [a] X.env = (false, eval a X.env) :: starEach [] X.env := by rfl) : PE X (.Call (.Name "len" p) [.Call (.Name "set" p2) [a] [] q] [] pos) (tLenSetD X.K ta) := by
  refine ⟨fun pins s σ H Q I h => ?_⟩
  refine Call_ (ld_blt I hg hm boot_len ?_)
  refine PyProof.Rows.callWith_builtin1 (PyProof.Rows.args_cons ?_ rfl) rfl rfl
  refine Call_ (ld_blt I hg2 hm2 boot_set ?_)
  refine PyProof.Rows.callWith_type1 (PyProof.Rows.args_cons (thn (ha.run pins s σ H _ I h) fun v s1 ⟨x, H1, I1, r1, q1⟩ => PyProof.Rows.args_nil ?_) na) na rfl
  obtain ⟨l, ns, rfl, hq, hl, q1⟩ := q1
  cases r1
  obtain ⟨its, r, pl, hz⟩ := I1.list hq
  have hlen : its.toArray.size = ns.length := by rw [List.size_toArray, ← r.length, List.length_map]
  refine call_set_list (I1.ok.hd hc) pl.isList (by simpa using RZ.intsAre_vals r) (by rw [hlen]; unfold scanBound; omega) fun h' tk hS hk => ?_
  refine PyProof.Rows.args_nil ?_
  rw [hlen] at hS
  have hle := firstMet_length_le (fun i => ns.getD i 0) ns.length
  have hiff : (firstMet (fun i => ns.getD i 0) ns.length).length = ns.length ↔ ns.Nodup := by
    constructor
    · intro z
      have := dedup_len _ _ z
      rwa [range_getD] at this
    · intro z
      rw [RZ.firstMet_nodup z ns.length (Nat.le_refl _), List.take_length]
  obtain ⟨o, es, ep, t, ho, hex, hd, _, _, _, hf, hn⟩ := hS
  have I2 : Inv X pins σ H1 { s1 with heap := h', toks := tk } := I1.kept fun b o e => hk b o (Heap.lt_size e) e
  exact call_len_set ho hex hd hf (by rw [hn] <;> omega) ⟨.int ((firstMet (fun i => ns.getD i 0) ns.length).length : Nat), H1, I2.tok _, ⟨_, by rw [hn]⟩, q1 _ hiff⟩
section
variable {P : Program} {w : World} {K : PySem.W.Frag} {mg : Str → Option Value} {base : Heap}
def spIsBox : Sp := fun vs H Q _ => ∃ (a : Addr) (ns : List Int), vs = [.ref a] ∧ H a = some (.lst (ns.map V.int)) ∧ ns.length ≤ 300 ∧ ∀ H', Same H H' → Q (.bl (Kvg6.boxOf ns).isSome) H'
theorem four_of {ns : List Int} (h : ns.length = 4) : ∃ a b c d, ns = [a, b, c, d] := by
  rcases ns with _ | ⟨a, _ | ⟨b, _ | ⟨c, _ | ⟨d, _ | ⟨e, r⟩⟩⟩⟩⟩
  · simp at h
  · simp at h
  · simp at h
  · simp at h
  · exact ⟨a, b, c, d, rfl⟩
  · simp at h
theorem sc_is_box : FnScope ["values", "value"] ["values"] (defScope s_is_box) := ⟨rfl, rfl, rfl, by decide +kernel, rfl, by decide +kernel, by decide +kernel⟩
theorem k_is_box (T : Tx K mg) : Kn P w K mg base "is_box" 2 ["values"] (spIsBox) := by
  have F := T.fn1 3 (x := "is_box") (st := s_is_box) rfl
  have sc := sc_is_box
  let st : Stmt := s_is_box
  let nn : List Str := ["values", "value"]
  refine ⟨F.ok sc (fun vs H Q E h => ?_) (fun cdv A outer s H vs Q E hr h => ?_), F.binds fun _ _ _ _ _ _ us hl => match us, hl with | [_], _ => rfl, F.kp, T.glo 2⟩

  · obtain ⟨a, ns, rfl, _⟩ := h
    rfl
  obtain ⟨a, ns, rfl, ha, h300, k⟩ := h
  refine ⟨_, (pss_cons (ps_if (PW.pt (pw_or (pt_cmpR op_ne (pe_callB call_len_seq (by rfl) (T.free 91) PySem.boot_len (pa_cons (pv 0) pa_nil)) pe_int (nomark _)) (pw_or1 (pt_not (pt_val (pe_callB (cr_all rfl) (by rfl) (T.free 92) boot_all (pa_cons (pe_lc (own := [("value", 1)]) (g := gName 1) (tt := tYes) rfl sc.nd (pi_list (pv 0)) (blkOk_by (N := nn) (sc := defScope st) (by decide +kernel)) (fun _ _ _ _ _ => (pg_name (i := 1) sc.nd rfl (Or.inl rfl))) (fun _ _ _ _ _ => pts_nil) (fun _ _ _ _ _ => (kc (k_is_coordinate T) hr (pa_cons (pv 1) pa_nil)))) pa_nil))))))) (pss_one (ps_ret pe_bl)) pss_nil)
      (pss_one (ps_ret (pe_and (pe_cmpR op_le (pe_ix ix_list (pv 0) pe_int (fun _ _ => rfl)) (pe_ix ix_list (pv 0) pe_int (fun _ _ => rfl)) (nomark _)) (pe_one (pe_cmpR op_le (pe_ix ix_list (pv 0) pe_int (fun _ _ => rfl)) (pe_ix ix_list (pv 0) pe_int (fun _ _ => rfl)) (nomark _))))))), ?_⟩
  refine ⟨_, rfl, a, _, rfl, .inl (.inl (.inl ha)), rfl, _, rfl, ?_⟩
  by_cases c : ns.length = 4
  · rw [decide_eq_true (by rw [List.length_map, c]; rfl)]
    obtain ⟨x0, y0, x1, y1, rfl⟩ := four_of c
    rw [BF.boxOf_four] at k
    refine iteF ⟨_, rfl, a, rfl, ⟨_, .inl (.inl ha)⟩, ?_⟩
    refine lc_li (xs := [x0, y0, x1, y1].map V.int) (R0 := fun v (n : Int) => v = .int n) [x0, y0, x1, y1] (fun _ => true) (fun _ v n => v = .bl (Kvg6.isCoordinate n)) (.cons rfl (.cons rfl (.cons rfl (.cons rfl .nil)))) ?_ ?_ ?_ ?_ ?_ ?_ ?_
    · exact fun H2 S => .inl (.inl (S _ _ ha))
    · show 4 < sizeLine
      decide
    · exact fun _ _ _ _ _ h => h
    · exact fun _ => rfl
    · exact fun x z H1 _ _ _ k hk => hk H1 (Same.refl H1)
    · rintro x z H1 D acc rfl _ _ S S' hD k hk
      exact ⟨_, rfl, z, rfl, hk _ _ (Same.refl H1) rfl⟩
    · intro D H' ys hD S hl hys
      have ey : ys = [x0, y0, x1, y1].map fun n => V.bl (Kvg6.isCoordinate n) := by
        have : ∀ {ys : List V} {l : List Int}, Paired (fun v (n : Int) => v = .bl (Kvg6.isCoordinate n)) ys l → ys = l.map fun n => V.bl (Kvg6.isCoordinate n) := fun {ys l} h => by
          induction h with
          | nil => rfl
          | cons a b ih => rw [a, ih, List.map_cons]
        exact this hys
      subst ey
      have hb : SqL K H' D (([x0, y0, x1, y1].map Kvg6.isCoordinate).map V.bl) := .inl (.inl (by rw [hl, List.map_map]; rfl))
      refine ⟨D, _, rfl, hb, _, rfl, ?_⟩
      have e : (([x0, y0, x1, y1].map Kvg6.isCoordinate).all id) = [x0, y0, x1, y1].all Kvg6.isCoordinate := by rw [List.all_map]; rfl
      rw [e]
      have ha' := S _ _ ha
      cases c1 : [x0, y0, x1, y1].all Kvg6.isCoordinate with
      | false =>
        rw [c1] at k
        exact iteT (k H' S)
      | true =>
        rw [c1, Bool.true_and] at k
        refine iteF ⟨_, rfl, a, _, 0, _, rfl, rfl, .inl (.inl ha'), at_of (j := 0) rfl rfl, _, rfl, a, _, 2, _, rfl, rfl, .inl (.inl ha'), at_of (j := 2) rfl rfl, _, _, rfl, rfl, _, rfl, ite_and4 (fun z => ?_) fun z => ⟨_, rfl, a, _, 1, _, rfl, rfl, .inl (.inl ha'), at_of (j := 1) rfl rfl, _, rfl, a, _, 3, _, rfl, rfl, .inl (.inl ha'), at_of (j := 3) rfl rfl, _, _, rfl, rfl, ?_⟩⟩
        · have := k H' S
          rw [decide_eq_false z] at this
          exact this
        · have := k H' S
          rw [decide_eq_true z] at this
          exact this
  · rw [decide_eq_false (fun z => by injection z with z; rw [List.length_map] at z; omega)]
    rw [BF.boxOf_len c] at k
    exact iteT (k H (Same.refl H))
def spBoxFrom (K : PySem.W.Frag) : Sp := fun vs H Q E => ∃ (a : Addr) (ns : List Int), vs = [.ref a] ∧ H a = some (.lst (ns.map V.int)) ∧ ns.length ≤ 300 ∧ (∀ b, Kvg6.boxOf ns = some b → NewBox H b Q) ∧ (Kvg6.boxOf ns = none → Err K E H (-22))
theorem sc_box_from : FnScope ["values"] ["values"] (defScope s_box_from) := ⟨rfl, rfl, rfl, by decide +kernel, rfl, by decide +kernel, by decide +kernel⟩
theorem k_box_from (T : Tx K mg) : KnX P w K mg base "box_from" 4 ["values"] (spBoxFrom K) := by
  have F := T.fn1 41 (x := "box_from") (st := s_box_from) rfl
  have sc := sc_box_from
  obtain ⟨tOUT_OF_RANGE, gOUT_OF_RANGE⟩ := T.int 107 (x := "OUT_OF_RANGE") rfl
  let st : Stmt := s_box_from
  let nn : List Str := ["values"]
  refine ⟨F.okX sc (fun vs H Q E h => ?_) (fun cdv A outer s H vs Q E hr h => ?_), F.binds fun _ _ _ _ _ _ us hl => match us, hl with | [_], _ => rfl, F.kp, T.glo 38⟩

  · obtain ⟨a, ns, rfl, _⟩ := h
    rfl
  obtain ⟨a, ns, rfl, ha, h300, k1, k2⟩ := h
  refine ⟨_, (pss_cons (ps_expr (kcX (k_need T) hr (pa_cons (kc (k_is_box T) hr (pa_cons (pv 0) pa_nil)) (pa_cons (pe_glob (v := .int (-22)) rfl gOUT_OF_RANGE ⟨_, rfl⟩) pa_nil)) (passes_call (takes_of rfl rfl rfl rfl) fun _ _ _ _ h => h)))
      (pss_one (ps_ret (pe_callTy call_tuple_of (by rfl) (T.free 99) boot_tuple (pa_cons (pv 0) pa_nil))))), ?_⟩
  refine ⟨_, rfl, a, ns, rfl, ha, h300, fun H1 S1 => ?_⟩
  refine ⟨_, _, rfl, fun c => ?_, fun c => ?_⟩
  · obtain ⟨b, hb⟩ := Option.isSome_iff_exists.mp c
    obtain ⟨e, ok⟩ := BF.boxOf_some hb
    refine ⟨_, rfl, a, _, rfl, .inl ⟨.inl (.inl (S1 _ _ ha)), fun l hl => ?_⟩⟩
    refine k1 b hb l _ (S1.free hl) (S1.upd3 hl) ⟨?_, ok⟩
    rw [upd_same, e]
    rfl
  · refine (k2 ?_).same S1
    cases hb : Kvg6.boxOf ns with
    | none => rfl
    | some b =>
      rw [hb] at c
      cases c
def spIsRow : Sp := fun vs H Q _ => ∃ (a : Addr) (ns : List Int), vs = [.ref a] ∧ H a = some (.lst (ns.map V.int)) ∧ ns.length = 5 ∧ ∀ H', Same H H' → Q (.bl (BF.rowOk ns)) H'
theorem sc_is_row : FnScope ["values"] ["values"] (defScope s_is_row) := ⟨rfl, rfl, rfl, by decide +kernel, rfl, by decide +kernel, by decide +kernel⟩
theorem k_is_row (T : Tx K mg) : Kn P w K mg base "is_row" 3 ["values"] (spIsRow) := by
  have F := T.fn1 42 (x := "is_row") (st := s_is_row) rfl
  have sc := sc_is_row
  obtain ⟨tGREATEST_NUMBER, gGREATEST_NUMBER⟩ := T.int 116 (x := "GREATEST_NUMBER") rfl
  let st : Stmt := s_is_row
  let nn : List Str := ["values"]
  refine ⟨F.ok sc (fun vs H Q E h => ?_) (fun cdv A outer s H vs Q E hr h => ?_), F.binds fun _ _ _ _ _ _ us hl => match us, hl with | [_], _ => rfl, F.kp, T.glo 39⟩

  · obtain ⟨a, ns, rfl, _⟩ := h
    rfl
  obtain ⟨a, ns, rfl, ha, h5, k⟩ := h
  refine ⟨_, (pss_one (ps_ret (pe_and (pe_chain op_le op_le pe_int (pe_ix ix_list (pv 0) pe_int (fun _ _ => rfl)) (pe_glob (v := .int (65535)) rfl gGREATEST_NUMBER ⟨_, rfl⟩)) (pe_one (kc (k_is_box T) hr (pa_cons (pe_slice sl_list (pv 0) (po_some pe_int) po_none) pa_nil)))))), ?_⟩
  obtain ⟨n0, x0, y0, x1, y1, r, rfl, hr0⟩ := BF.five_of (m := 0) h5
  have er : r = [] := List.eq_nil_of_length_eq_zero (by omega)
  subst er
  have e : BF.rowOk [n0, x0, y0, x1, y1] = ((decide (0 ≤ n0) && decide (n0 ≤ 65535)) && (Kvg6.boxOf [x0, y0, x1, y1]).isSome) := rfl
  rw [e] at k
  refine ⟨_, rfl, a, _, 0, _, rfl, rfl, .inl (.inl ha), at_of (j := 0) rfl rfl, _, _, rfl, rfl, _, rfl, ?_⟩
  have tail : (0 ≤ n0 ∧ n0 ≤ 65535) → (tCall spIsBox [] E0 (tCons (tSl (rSlL K) (tVar 0) (tPart (tC (.int 1))) tNoPart) tNil) : TE) [some (.ref a)] H Q := by
    rintro ⟨c1, c2⟩
    rw [decide_eq_true c1, decide_eq_true c2] at k
    refine ⟨_, rfl, _, rfl, a, _, rfl, .inl (.inl ha), fun p hp => ?_⟩
    rw [cut_hi (xs := [n0, x0, y0, x1, y1].map V.int) (z := 1) (j := 1) rfl (by show 1 ≤ 5; decide)]
    exact ⟨p, [x0, y0, x1, y1], rfl, upd_same, by show 4 ≤ 300; decide, fun H' S => k H' ((Same.upd hp).trans S)⟩
  by_cases c1 : 0 ≤ n0
  · rw [decide_eq_true c1]
    refine iteT ⟨_, _, rfl, rfl, _, rfl, ?_⟩
    by_cases c2 : n0 ≤ 65535
    · rw [decide_eq_true c2]
      exact iteT (tail ⟨c1, c2⟩)
    · rw [decide_eq_false c2]
      rw [decide_eq_true c1, decide_eq_false c2] at k
      exact iteF (k H (Same.refl H))
  · rw [decide_eq_false c1]
    rw [decide_eq_false c1] at k
    exact iteF ⟨_, rfl, iteF (k H (Same.refl H))⟩
end
end BFW
namespace BFW
open PySem PySem.Spec PyProof.Rows L2 BFH
open Kvg6 (Box Item)
open BF (BoxOk ItOk)
section
variable {P : Program} {w : World} {K : PySem.W.Frag} {mg : Str → Option Value} {base : Heap}
theorem fits (z : Int) (h1 : -(2 ^ 62) ≤ z) (h2 : z < 2 ^ 62) : Builtin.Range.rangeFitsLong z = true := by
  unfold Builtin.Range.rangeFitsLong
  rw [Bool.and_eq_true, decide_eq_true_eq, decide_eq_true_eq]
  omega
theorem rgC5 (m : Nat) (h : m ≤ 1000) : RgC 0 ((5 * m : Nat) : Int) 5 m := by
  refine ⟨by decide, by decide, ?_, ?_⟩
  · unfold Builtin.Range.small
    rw [PyProof.Rows.rangeSize_pos (by decide) (by omega)]
    rw [fits 0 (by omega) (by omega), fits _ (by omega) (by omega), fits 5 (by omega) (by omega), fits _ (by omega) (by omega), if_pos (by decide), fits _ (by omega) (by omega)]
    simp
  · rw [PyProof.Rows.rangeSize_pos (by decide) (by omega)]
    omega
theorem lc_rgC {lo c : Int} {n : Nat} {H0 : Hp} {i0 : Nat} {tt : TT} {te : TE} {vs : List Nat} {σ : L2.St} {Qd : Addr → Hp → Prop} {α : Type} (zs : List α) (p : α → Bool) (R : Hp → V → α → Prop)
    (hn : zs.length = n) (hz : n < sizeLine) (mono : ∀ H H' v z, Same H H' → R H v z → R H' v z)
    (hw : ∀ x, wipe (((wipe σ vs).set i0 (some x))) vs = wipe σ vs)
    (test : ∀ i z H, zs[i]? = some z → Same H0 H → ∀ k : Bool → Hp → Prop, (∀ H', Same H H' → k (p z) H') → tt ((wipe σ vs).set i0 (some (.int (lo + (i : Nat) * c)))) H k)
    (elt : ∀ i z H D acc, zs[i]? = some z → p z = true → Same H0 H → Same H0 (off H D) → H D = some (.lst acc) → ∀ k : VK, (∀ y H', Same H H' → R (off H' D) y z → k y H') → te ((wipe σ vs).set i0 (some (.int (lo + (i : Nat) * c)))) H k)
    (fin : ∀ D H' ys, H0 D = none → Same H0 H' → H' D = some (.lst ys) → Paired (R (off H' D)) ys (zs.filter p) → Qd D H') :
    ∀ D, H0 D = none → ∃ W : Nat → Nat → Hp → Prop, (∃ m, W 0 m (upd H0 D (.lst []))) ∧ ∀ i m H, W i m H →
      ((Itc lo c n).stop i H ∧ Qd D H) ∨ ((Itc lo c n).go i H ∧ ∃ Nx : Hp → Prop, (∀ H', Nx H' → ∃ m', m' < m ∧ W (i + 1) m' H') ∧ ∀ x H', (Itc lo c n).yld i H x H' → gName i0 x (wipe σ vs) H' fun σ2 H2 => wipe σ2 vs = wipe σ vs ∧ tt σ2 H2 fun b H3 =>
        if b = true then te σ2 H3 fun y H4 => ∃ acc, H4 D = some (.lst acc) ∧ acc.length < sizeLine ∧ Nx (upd H4 D (.lst (acc ++ [y]))) else Nx H3) := by
  intro D hD
  refine lc_gen (f := fun i => .int (lo + (i : Nat) * c)) zs p R walk_rangeC hn hz hD (fun _ _ => trivial) mono hw ?_ ?_ (fun H' ys => fin D H' ys hD)
  · exact fun i z H hi hz1 S k hk => test i z H hz1 S k hk
  · exact fun i z H acc hi hz1 hp S S' ha k hk => elt i z H D acc hz1 hp S S' ha k hk
/-- a list of ints -/
def IntsL (H : Hp) (v : V) (ns : List Int) : Prop := ∃ g, v = .ref g ∧ H g = some (.lst (ns.map V.int))
theorem _root_.L2.Same.intsL {H H' : Hp} {v : V} {ns : List Int} (S : Same H H') (h : IntsL H v ns) : IntsL H' v ns := by
  obtain ⟨g, e, h⟩ := h
  exact ⟨g, e, S _ _ h⟩
theorem cut_mid {xs : List V} {i j : Nat} {a b : Int} (ea : a = (i : Int)) (eb : b = (j : Int)) (h : j ≤ xs.length) (hij : i ≤ j) : cutV xs (some a) (some b) = (xs.drop i).take (j - i) := by
  subst ea eb
  unfold cutV HT.sIx
  dsimp only
  rw [if_neg (by omega), if_neg (by omega)]
  have e1 : min (((i : Nat) : Int)).toNat xs.length = i := by omega
  have e2 : min (((j : Nat) : Int)).toNat xs.length = j := by omega
  rw [e1, e2]
def spItemsFrom (K : PySem.W.Frag) : Sp := fun vs H Q E => ∃ (a : Addr) (ns : List Int), vs = [.ref a] ∧ H a = some (.lst (ns.map V.int)) ∧ ns.length ≤ 300 ∧
  (Kvg6.itemsOf ns.length ns = none → Err K E H (-22)) ∧
  (∀ items, Kvg6.itemsOf ns.length ns = some items → (48 < items.length → Err K E H (-28)) ∧ (items.length ≤ 48 → ¬ (BF.ids items).Nodup → Err K E H (-17)) ∧
    (items.length ≤ 48 → (BF.ids items).Nodup → (∀ it ∈ items, ItOk it) → ∀ q xs H', H q = none → Same H H' → H' q = some (.lst xs) → Paired (ItemAt K H') xs items → Q (.ref q) H'))
theorem rws_at {m i : Nat} {ns r : List Int} (h : (BF.rws5 m ns)[i]? = some r) : i < m ∧ r = (ns.drop (5 * i)).take 5 := by
  unfold BF.rws5 at h
  rw [List.getElem?_map] at h
  by_cases c : i < m
  · rw [List.getElem?_range c] at h
    exact ⟨c, (Option.some.inj h).symm⟩
  · rw [List.getElem?_eq_none (by rw [List.length_range]; omega)] at h
    cases h
theorem rws_len {m : Nat} {ns r : List Int} (hl : ns.length = 5 * m) (h : r ∈ BF.rws5 m ns) : r.length = 5 := by
  obtain ⟨i, hi⟩ := List.getElem?_of_mem h
  obtain ⟨c, rfl⟩ := rws_at hi
  rw [List.length_take, List.length_drop]
  omega
theorem nums_nodup {rs : List (List Int)} (h : ∀ r ∈ rs, BF.rowOk r = true) : (rs.map fun r => r.getD 0 0).Nodup ↔ (BF.ids (rs.map BF.rowItem)).Nodup := by
  have e : (rs.map fun r => r.getD 0 0) = (BF.ids (rs.map BF.rowItem)).map fun n : Nat => (n : Int) := by
    rw [BF.ids, List.map_map, List.map_map]
    refine List.map_congr_left fun r hr => ?_
    exact (BF.rowItem_ok (h r hr)).2.1.symm
  rw [e]
  constructor
  · intro z
    exact (List.pairwise_map.mp z).imp fun hne e => hne (by rw [e])
  · exact fun z => BF.nodup_map_inj (fun a b h => Int.ofNat.inj h) z
theorem sc_items_from : FnScope ["values", "rows", "k", "row"] ["values"] (defScope s_items_from) := ⟨rfl, rfl, rfl, by decide +kernel, rfl, by decide +kernel, by decide +kernel⟩
theorem k_items_from (T : Tx K mg) : KnX P w K mg base "items_from" 4 ["values"] (spItemsFrom K) := by
  have F := T.fn1 43 (x := "items_from") (st := s_items_from) rfl
  have sc := sc_items_from
  obtain ⟨tMOST_ITEMS, gMOST_ITEMS⟩ := T.int 115 (x := "MOST_ITEMS") rfl
  obtain ⟨tOUT_OF_RANGE, gOUT_OF_RANGE⟩ := T.int 107 (x := "OUT_OF_RANGE") rfl
  obtain ⟨tROW, gROW⟩ := T.int 117 (x := "ROW") rfl
  obtain ⟨tTOO_MANY, gTOO_MANY⟩ := T.int 108 (x := "TOO_MANY") rfl
  obtain ⟨tTWICE, gTWICE⟩ := T.int 106 (x := "TWICE") rfl
  let st : Stmt := s_items_from
  let nn : List Str := ["values", "rows", "k", "row"]
  refine ⟨F.okX sc (fun vs H Q E h => ?_) (fun cdv A outer s H vs Q E hr h => ?_), F.binds fun _ _ _ _ _ _ us hl => match us, hl with | [_], _ => rfl, F.kp, T.glo 40⟩

  · obtain ⟨a, ns, rfl, _⟩ := h
    rfl
  obtain ⟨a, ns, rfl, ha, h300, k1, k2⟩ := h
  refine ⟨_, (pss_cons (ps_expr (kcX (k_need T) hr (pa_cons (pe_cmpR op_eq (pe_op op_modN (pe_callB call_len_seq (by rfl) (T.free 91) PySem.boot_len (pa_cons (pv 0) pa_nil)) (pe_glob (v := .int (5)) rfl gROW ⟨_, rfl⟩)) pe_int (nomark _)) (pa_cons (pe_glob (v := .int (-22)) rfl gOUT_OF_RANGE ⟨_, rfl⟩) pa_nil)) (passes_call (takes_of rfl rfl rfl rfl) fun _ _ _ _ h => h)))
      (pss_cons (ps_setLc (i := 1) (own := [("k", 2)]) (g := gName 2) (tt := tYes) rfl sc.nd rfl rfl (sw_true rfl rfl rfl (by decide +kernel)) (pi_range3 rfl (T.free 95) (pa_cons pe_int (pa_cons (pe_callB call_len_seq (by rfl) (T.free 91) PySem.boot_len (pa_cons (pv 0) pa_nil)) (pa_cons (pe_glob (v := .int (5)) rfl gROW ⟨_, rfl⟩) pa_nil)))) (blkOk_by (N := nn) (sc := defScope st) (by decide +kernel)) (fun _ _ _ _ _ => (pg_name (i := 2) sc.nd rfl (Or.inl rfl))) (fun _ _ _ _ _ => pts_nil) (fun _ _ _ _ _ => (pe_slice (sl_listK (K := K) rfl) (pv 0) (po_some (pv 2)) (po_some (pe_op op_add (pv 2) (pe_glob (v := .int (5)) rfl gROW ⟨_, rfl⟩))))))
      (pss_cons (ps_expr (kcX (k_need T) hr (pa_cons (pe_callB (cr_all rfl) (by rfl) (T.free 92) boot_all (pa_cons (pe_lc (own := [("row", 3)]) (g := gName 3) (tt := tYes) rfl sc.nd (pi_list (pv 1)) (blkOk_by (N := nn) (sc := defScope st) (by decide +kernel)) (fun _ _ _ _ _ => (pg_name (i := 3) sc.nd rfl (Or.inl rfl))) (fun _ _ _ _ _ => pts_nil) (fun _ _ _ _ _ => (kc (k_is_row T) hr (pa_cons (pv 3) pa_nil)))) pa_nil)) (pa_cons (pe_glob (v := .int (-22)) rfl gOUT_OF_RANGE ⟨_, rfl⟩) pa_nil)) (passes_call (takes_of rfl rfl rfl rfl) fun _ _ _ _ h => h)))
      (pss_cons (ps_expr (kcX (k_need T) hr (pa_cons (pe_cmpR op_le (pe_callB call_len_seq (by rfl) (T.free 91) PySem.boot_len (pa_cons (pv 1) pa_nil)) (pe_glob (v := .int (48)) rfl gMOST_ITEMS ⟨_, rfl⟩) (nomark _)) (pa_cons (pe_glob (v := .int (-28)) rfl gTOO_MANY ⟨_, rfl⟩) pa_nil)) (passes_call (takes_of rfl rfl rfl rfl) fun _ _ _ _ h => h)))
      (pss_cons (ps_expr (kcX (k_need T) hr (pa_cons (pe_cmpR op_eq (pe_lenSetD rfl (T.free 91) rfl (T.free 98) (pe_lc (own := [("row", 3)]) (g := gName 3) (tt := tYes) rfl sc.nd (pi_list (pv 1)) (blkOk_by (N := nn) (sc := defScope st) (by decide +kernel)) (fun _ _ _ _ _ => (pg_name (i := 3) sc.nd rfl (Or.inl rfl))) (fun _ _ _ _ _ => pts_nil) (fun _ _ _ _ _ => (pe_ix (ix_listK (K := K) rfl) (pv 3) pe_int (fun _ _ => rfl))))) (pe_callB call_len_seq (by rfl) (T.free 91) PySem.boot_len (pa_cons (pv 1) pa_nil)) (nomark _)) (pa_cons (pe_glob (v := .int (-17)) rfl gTWICE ⟨_, rfl⟩) pa_nil)) (passes_call (takes_of rfl rfl rfl rfl) fun _ _ _ _ h => h)))
      (pss_one (ps_ret (pe_lc (own := [("row", 3)]) (g := gName 3) (tt := tYes) rfl sc.nd (pi_list (pv 1)) (blkOk_by (N := nn) (sc := defScope st) (by decide +kernel)) (fun _ _ _ _ _ => (pg_name (i := 3) sc.nd rfl (Or.inl rfl))) (fun _ _ _ _ _ => pts_nil) (fun _ _ _ _ _ => (kmK (K := K) rfl (k_Item_init T) hr (pa_cons (pe_ix (ix_listK (K := K) rfl) (pv 3) pe_int (fun _ _ => rfl)) (pa_cons (pe_callTy (call_tupleK (K := K) rfl) (by rfl) (T.free 99) boot_tuple (pa_cons (pe_slice (sl_listK (K := K) rfl) (pv 3) (po_some pe_int) po_none) pa_nil)) pa_nil)))))))))))), ?_⟩
  refine ⟨_, rfl, a, _, rfl, .inl (.inl (.inl ha)), _, _, rfl, rfl, by show (5 : Int) ≠ 0; decide, rfl, _, _, rfl, fun c => ?_, fun c => ?_⟩
  rotate_left
  · refine k1 (BF.itemsOf_not _ _ fun z => ?_)
    rw [decide_eq_false_iff_not] at c
    refine c ?_
    show V.int (((ns.map V.int).length : Int).fmod 5) = V.int 0
    rw [List.length_map, Int.fmod_eq_emod_of_nonneg _ (by decide)]
    congr 1
    omega
  have c' : V.int (((ns.map V.int).length : Int).fmod 5) = V.int 0 := of_decide_eq_true c
  rw [List.length_map, Int.fmod_eq_emod_of_nonneg _ (by decide)] at c'
  injection c' with c'
  obtain ⟨m, hm⟩ : ∃ m, ns.length = 5 * m := ⟨ns.length / 5, by omega⟩
  have hit := BF.itemsOf_rows m ns.length ns hm (by omega)
  have hrl : (BF.rws5 m ns).length = m := by
    unfold BF.rws5
    rw [List.length_map, List.length_range]
  have haln : ((ns.map V.int).length : Int) = ((5 * m : Nat) : Int) := by rw [List.length_map, hm]
  refine ⟨_, rfl, a, _, rfl, .inl (.inl (.inl ha)), 0, _, 5, m, rfl, by rw [haln]; exact rgC5 m (by omega), ?_⟩
  refine lc_rgC (BF.rws5 m ns) (fun _ => true) IntsL hrl (Nat.lt_of_le_of_lt (show m ≤ 1000 by omega) (by decide)) (fun _ _ _ _ S h => S.intsL h) (fun _ => rfl) (fun i z H1 _ _ k hk => hk H1 (Same.refl H1)) ?_ ?_
  · intro i z H1 D acc hz _ S S' hD k hk
    obtain ⟨hi, rfl⟩ := rws_at hz
    refine ⟨_, rfl, _, rfl, _, rfl, _, rfl, _, _, rfl, rfl, _, rfl, a, _, rfl, .inl (.inl (S _ _ ha)), fun p hp => ?_⟩
    rw [cut_mid (i := 5 * i) (j := 5 * i + 5) (by omega) (by omega) (by rw [List.length_map]; omega) (by omega)]
    refine hk _ _ (Same.upd hp) ⟨p, rfl, ?_⟩
    have hpD : p ≠ D := (ne_of_none hD hp).symm
    refine off_at ?_ hpD
    rw [upd_same, show 5 * i + 5 - 5 * i = 5 by omega, ← List.map_drop, ← List.map_take]
  · intro l H1 rs hl0 S1 hrs hpr
    rw [show (BF.rws5 m ns).filter (fun _ => true) = BF.rws5 m ns from List.filter_eq_self.mpr fun _ _ => rfl] at hpr
    have hpr1 := Paired.impl (fun _ _ => off_same.intsL) hpr
    have hrsl : rs.length = m := by rw [hpr1.len, hrl]
    -- all rows are good
    refine ⟨_, rfl, l, rfl, ⟨_, .inl (.inl hrs)⟩, ?_⟩
    refine lc_li (R0 := IntsL H1) (BF.rws5 m ns) (fun _ => true) (fun _ v r => v = .bl (BF.rowOk r)) hpr1 ?_ ?_ ?_ ?_ ?_ ?_ ?_
    · exact fun H2 S => .inl (.inl (S _ _ hrs))
    · exact Nat.lt_of_le_of_lt (show rs.length ≤ 1000 by omega) (by decide)
    · exact fun _ _ _ _ _ h => h
    · exact fun _ => rfl
    · exact fun x z H1 _ _ _ k hk => hk H1 (Same.refl H1)
    · rintro x z H2 D acc ⟨g, rfl, hg⟩ hz _ S S' hD k hk
      exact ⟨_, rfl, g, z, rfl, S _ _ hg, rws_len hm hz, fun H3 S3 => hk _ _ S3 rfl⟩
    intro l2 H2 bs hl20 S2 hbs hpb
    rw [show (BF.rws5 m ns).filter (fun _ => true) = BF.rws5 m ns from List.filter_eq_self.mpr fun _ _ => rfl] at hpb
    have eb : bs = ((BF.rws5 m ns).map BF.rowOk).map V.bl := by
      have : ∀ {ys : List V} {l : List (List Int)}, Paired (fun v r => v = .bl (BF.rowOk r)) ys l → ys = (l.map BF.rowOk).map V.bl := fun {ys l} h => by
        induction h with
        | nil => rfl
        | cons a b ih => rw [a, ih, List.map_cons, List.map_cons]
      exact this hpb
    subst eb
    refine ⟨l2, _, rfl, .inl (.inl hbs), _, _, rfl, fun c2 => ?_, fun c2 => ?_⟩
    rotate_left
    · refine (k1 ?_).same (S1.trans S2)
      rw [hit, if_neg (by rw [List.all_map] at c2; show ¬ ((BF.rws5 m ns).all BF.rowOk = true); rw [show (BF.rws5 m ns).all BF.rowOk = (BF.rws5 m ns).all (id ∘ BF.rowOk) from rfl, c2]; decide)]
    have hall : (BF.rws5 m ns).all BF.rowOk = true := by rw [List.all_map] at c2; exact c2
    have hallr : ∀ r ∈ BF.rws5 m ns, BF.rowOk r = true := List.all_eq_true.mp hall
    rw [if_pos hall] at hit
    obtain ⟨k3, k4, k5⟩ := k2 _ hit
    rw [List.length_map, hrl] at k3 k4 k5
    have hrs2 := S2 _ _ hrs
    refine ⟨_, rfl, l, rs, rfl, .inl (.inl (.inl hrs2)), _, _, rfl, rfl, _, _, rfl, fun c3 => ?_, fun c3 => ?_⟩
    rotate_left
    · rw [decide_eq_false_iff_not] at c3
      exact (k3 (by omega)).same (S1.trans S2)
    have c3' := of_decide_eq_true c3
    have hm48 : m ≤ 48 := by omega
    have hpr2 := Paired.impl (fun _ _ => S2.intsL) hpr1
    refine ⟨_, rfl, l, rfl, ⟨_, .inl (.inl hrs2)⟩, ?_⟩
    refine lc_li (R0 := IntsL H2) (BF.rws5 m ns) (fun _ => true) (fun _ v r => v = .int (r.getD 0 0)) hpr2 ?_ ?_ ?_ ?_ ?_ ?_ ?_
    · exact fun H3 S => .inl (.inl (S _ _ hrs2))
    · exact Nat.lt_of_le_of_lt (show rs.length ≤ 1000 by omega) (by decide)
    · exact fun _ _ _ _ _ h => h
    · exact fun _ => rfl
    · exact fun x z H1 _ _ _ k hk => hk H1 (Same.refl H1)
    · rintro x z H3 D acc ⟨g, rfl, hg⟩ hz _ S S' hD k hk
      have h5 := rws_len hm hz
      obtain ⟨n0, x0, y0, x1, y1, r, rfl, _⟩ := BF.five_of (m := 0) h5
      exact ⟨_, rfl, g, _, 0, _, rfl, rfl, .inl (.inl (S _ _ hg)), at_of (j := 0) rfl rfl, hk _ _ (Same.refl _) rfl⟩
    intro l3 H3 is hl30 S3 his hpi
    rw [show (BF.rws5 m ns).filter (fun _ => true) = BF.rws5 m ns from List.filter_eq_self.mpr fun _ _ => rfl] at hpi
    have ei : is = ((BF.rws5 m ns).map fun r => r.getD 0 0).map V.int := by
      have : ∀ {ys : List V} {l : List (List Int)}, Paired (fun v r => v = .int (r.getD 0 0)) ys l → ys = (l.map fun r => r.getD 0 0).map V.int := fun {ys l} h => by
        induction h with
        | nil => rfl
        | cons a b ih => rw [a, ih, List.map_cons, List.map_cons]
      exact this hpi
    subst ei
    have S13 := (S1.trans S2).trans S3
    have hrs3 := S3 _ _ hrs2
    refine ⟨l3, _, rfl, .inl (.inl his), by rw [List.length_map]; omega, fun n hn => ?_⟩
    rw [List.length_map, nums_nodup hallr, hrl] at hn
    refine ⟨_, rfl, l, rs, rfl, .inl (.inl (.inl hrs3)), rfl, _, _, rfl, fun c4 => ?_, fun c4 => ?_⟩
    rotate_left
    · refine (k4 hm48 fun z => ?_).same S13
      rw [decide_eq_false_iff_not] at c4
      exact c4 (by rw [hn.mpr z, hrsl])
    have c4' := of_decide_eq_true c4
    injection c4' with c4'
    have hnd : (BF.ids ((BF.rws5 m ns).map BF.rowItem)).Nodup := hn.mp (by omega)
    have hpr3 := Paired.impl (fun _ _ => S3.intsL) hpr2
    refine ⟨_, rfl, l, rfl, ⟨_, .inl (.inl hrs3)⟩, ?_⟩
    refine lc_li (R0 := IntsL H3) (BF.rws5 m ns) (fun _ => true) (fun H' v r => ItemAt K H' v (BF.rowItem r)) hpr3 ?_ ?_ ?_ ?_ ?_ ?_ ?_
    · exact fun H4 S => .inl (.inl (S _ _ hrs3))
    · exact Nat.lt_of_le_of_lt (show rs.length ≤ 1000 by omega) (by decide)
    · exact fun _ _ _ _ S h => S.item h
    · exact fun _ => rfl
    · exact fun x z H1 _ _ _ k hk => hk H1 (Same.refl H1)
    · rintro x z H4 D acc ⟨g, rfl, hg⟩ hz _ S S' hD k hk
      have h5 := rws_len hm hz
      have hok := hallr z hz
      obtain ⟨n0, x0, y0, x1, y1, r, rfl, hr5⟩ := BF.five_of (m := 0) h5
      have er : r = [] := List.eq_nil_of_length_eq_zero (by omega)
      subst er
      obtain ⟨ok1, ok2, ok3⟩ := BF.rowItem_ok hok
      refine ⟨_, rfl, g, _, 0, _, rfl, rfl, .inl (.inl (S _ _ hg)), at_of (j := 0) rfl rfl, _, rfl, _, rfl, g, _, rfl, .inl (.inl (S _ _ hg)), fun p hp => ?_⟩
      rw [cut_hi (xs := [n0, x0, y0, x1, y1].map V.int) (z := 1) (j := 1) rfl (by show 1 ≤ 5; decide)]
      refine ⟨p, _, rfl, .inl ⟨.inl (.inl upd_same), fun t ht => ?_⟩⟩
      have Sp := Same.upd (o := .lst (([n0, x0, y0, x1, y1].map V.int).drop 1)) hp
      have St := Sp.upd3 (o := .tup (([n0, x0, y0, x1, y1].map V.int).drop 1)) ht
      refine make_item fun x H5 hx S5 hit5 => ?_
      obtain ⟨dx, hd⟩ := hit5
      have hD5 := S5 _ _ (St _ _ hD)
      have ht5 := S5 _ _ (upd_same (H := upd H4 p (.lst (([n0, x0, y0, x1, y1].map V.int).drop 1))) (a := t) (o := .tup (([n0, x0, y0, x1, y1].map V.int).drop 1)))
      refine hk _ _ (St.trans S5) ⟨x, dx, t, rfl, ?_, ?_, ok1.1⟩
      · rw [ok2]
        exact off_ne hd hD5 (fun z => nomatch z)
      · refine off_ne (o := .tup _) ?_ hD5 (fun z => nomatch z)
        rw [ht5]
        show some (HO.tup (([x0, y0, x1, y1] : List Int).map V.int)) = _
        exact congrArg (fun l : List Int => some (HO.tup (l.map V.int))) ok3
    intro q H4 xs hq0 S4 hq hpx
    rw [show (BF.rws5 m ns).filter (fun _ => true) = BF.rws5 m ns from List.filter_eq_self.mpr fun _ _ => rfl] at hpx
    refine k5 hm48 hnd (fun it hi => ?_) q xs H4 (S13.free hq0) (S13.trans S4) hq (Paired.mapR (Paired.impl (fun _ _ => off_same.item) hpx))
    obtain ⟨r, hr5, rfl⟩ := List.mem_map.mp hi
    exact (BF.rowItem_ok (hallr r hr5)).1
end
end BFW
namespace BFW
open PySem PySem.Spec PyProof.Rows L2 BFH
open Kvg6 (Box Item)
open BF (BoxOk ItOk)
/-! ### calls of methods -/
section
variable {X : Cx} {j k : Nat} {sp : Sp} {c m : Str} {ps : List Str} {pos apos : Pos} {e o : Expr} {es : List Expr} {t : TA} {ta : TE} {E : XK}
theorem kmt {pl : Sem Bool} (F : KnM X.prog X.w X.K X.mg X.base c m j ps sp) (he : PE X o ta) (hr : Room k X.A) (ha : PA X (e :: es) t) (hjk : j ≤ k := by decide)
    (hst : starEach (e :: es) X.env = (false, eval e X.env) :: starEach es X.env := by rfl) (hpl : (backTo pos (starEach es X.env)).any (·.1) = false := by rfl)
    (ht : eval (.Call (.Attribute o m apos) (e :: es) [] pos) X.env = (do
      let ov ← eval o X.env
      standAt apos.atName
      let (f, first) ← holding [ov] (getMethod ov m pl)
      callWith pos f first (backTo pos (starEach (e :: es) X.env)) (backToKw pos (keywordEach [] X.env))) := by rfl) :
    PE X (.Call (.Attribute o m apos) (e :: es) [] pos) (tMeth (He.ga X.K c) m sp [] E0 ta t) := pe_meth he F.cl F.me F.ok (hr.mono hjk) F.bd .nil pass0 ha hst hpl ht
theorem kmt0 {pl : Sem Bool} (F : KnM X.prog X.w X.K X.mg X.base c m j ps sp) (he : PE X o ta) (hr : Room k X.A) (hjk : j ≤ k := by decide)
    (ht : eval (.Call (.Attribute o m apos) [] [] pos) X.env = (do
      let ov ← eval o X.env
      standAt apos.atName
      let (f, first) ← holding [ov] (getMethod ov m pl)
      callWith pos f first [] []) := by rfl) :
    PE X (.Call (.Attribute o m apos) [] [] pos) (tMeth (He.ga X.K c) m sp [] E0 ta tNil) := pe_meth0 he F.cl F.me F.ok (hr.mono hjk) F.bd .nil pass0 ht
theorem kmtX {pl : Sem Bool} (F : KnMX X.prog X.w X.K X.mg X.base c m j ps sp) (he : PE X o ta) (hr : Room k X.A) (ha : PA X (e :: es) t) (hp : Passes (L2.CX X.prog X.w) X E) (hjk : j ≤ k := by decide)
    (hst : starEach (e :: es) X.env = (false, eval e X.env) :: starEach es X.env := by rfl) (hpl : (backTo pos (starEach es X.env)).any (·.1) = false := by rfl)
    (ht : eval (.Call (.Attribute o m apos) (e :: es) [] pos) X.env = (do
      let ov ← eval o X.env
      standAt apos.atName
      let (f, first) ← holding [ov] (getMethod ov m pl)
      callWith pos f first (backTo pos (starEach (e :: es) X.env)) (backToKw pos (keywordEach [] X.env))) := by rfl) :
    PE X (.Call (.Attribute o m apos) (e :: es) [] pos) (tMeth (He.ga X.K c) m sp [] E ta t) := pe_meth he F.cl F.me F.ok (hr.mono hjk) F.bd .nil hp ha hst hpl ht
end
section
variable {P : Program} {w : World} {K : PySem.W.Frag} {mg : Str → Option Value} {base : Heap}
theorem kcl_Forest (T : Tx K mg) : KCl K mg "Forest" (He.ma K (He.ga K "Forest") "__init__") := ⟨He.cls_ok (T.fact 130), He.mkr_ok (T.fact 131), T.glo 88⟩
theorem no_Forest_roots (T : Tx K mg) : NoAttr K (He.ga K "Forest") "roots" := He.noat_ok (T.fact 132)
theorem meth_Forest_root (T : Tx K mg) : Meth K (He.ga K "Forest") "root" (He.ma K (He.ga K "Forest") "root") := He.meth_ok (T.fact 136)
theorem meth_Forest_item (T : Tx K mg) : Meth K (He.ga K "Forest") "item" (He.ma K (He.ga K "Forest") "item") := He.meth_ok (T.fact 137)
theorem meth_Forest_replace_root (T : Tx K mg) : Meth K (He.ga K "Forest") "replace_root" (He.ma K (He.ga K "Forest") "replace_root") := He.meth_ok (T.fact 138)
theorem meth_Forest_insert (T : Tx K mg) : Meth K (He.ga K "Forest") "insert" (He.ma K (He.ga K "Forest") "insert") := He.meth_ok (T.fact 139)
theorem meth_Forest_remove_item (T : Tx K mg) : Meth K (He.ga K "Forest") "remove_item" (He.ma K (He.ga K "Forest") "remove_item") := He.meth_ok (T.fact 140)
theorem meth_Forest_update_item (T : Tx K mg) : Meth K (He.ga K "Forest") "update_item" (He.ma K (He.ga K "Forest") "update_item") := He.meth_ok (T.fact 141)
theorem meth_Forest_bulk_load (T : Tx K mg) : Meth K (He.ga K "Forest") "bulk_load" (He.ma K (He.ga K "Forest") "bulk_load") := He.meth_ok (T.fact 142)
theorem meth_Forest_rebuild (T : Tx K mg) : Meth K (He.ga K "Forest") "rebuild" (He.ma K (He.ga K "Forest") "rebuild") := He.meth_ok (T.fact 143)
theorem meth_Forest_swap_trees (T : Tx K mg) : Meth K (He.ga K "Forest") "swap_trees" (He.ma K (He.ga K "Forest") "swap_trees") := He.meth_ok (T.fact 144)
/-! ### the forest in the heap -/
def foF (l : Addr) : List (Str × V) := [("roots", .ref l)]
theorem foF_roots {l : Addr} : (foF l).lookup ("roots" : Str) = some (.ref l) := lk_here
theorem foF_none {l : Addr} {f : Str} (h : (f == ("roots" : Str)) = false) : (foF l).lookup f = none := (lk_past h).trans rfl
/-- a good tree -/
def TV (K : PySem.W.Frag) (H : Hp) (v : V) (t : Kvg6.Tree) : Prop := ∃ n, TreeV K H n v t ∧ BF.GoodAt n t
theorem _root_.L2.Same.tv {H H' : Hp} {v : V} {t : Kvg6.Tree} (S : Same H H') (h : TV K H v t) : TV K H' v t := by
  obtain ⟨n, h1, h2⟩ := h
  exact ⟨n, S.tree h1, h2⟩
def ForestAt (K : PySem.W.Frag) (H : Hp) (f : Addr) (s : Kvg6.Index) : Prop := ∃ dx l v1 v2, H f = some (.ins (He.ga K "Forest") dx (foF l)) ∧ H l = some (.lst [v1, v2]) ∧ TV K H v1 s.first ∧ TV K H v2 s.second
theorem _root_.L2.Same.forest {H H' : Hp} {f : Addr} {s : Kvg6.Index} (S : Same H H') (h : ForestAt K H f s) : ForestAt K H' f s := by
  obtain ⟨dx, l, v1, v2, h1, h2, h3, h4⟩ := h
  exact ⟨dx, l, v1, v2, S _ _ h1, S _ _ h2, S.tv h3, S.tv h4⟩
theorem ent_off {H : Hp} {f : Addr} {C dx : Addr} {l : Addr} (hf : H f = some (.ins C dx (foF l))) {v : V} {b : Box} (h : Ent K H v b) : Ent K (off H f) v b := by
  obtain ⟨a, C', dx', fs, q, rfl, h1, h2, h3, h4⟩ := h
  refine ⟨a, C', dx', fs, q, rfl, off_ne h1 hf ?_, h2, off_ne h3 hf (fun z => nomatch z), h4⟩
  rcases h2 with ⟨_, n, rfl⟩ | ⟨_, l', e, rfl⟩ <;> (intro z; injection z with _ _ z; cases z)
theorem item_off {H : Hp} {f : Addr} {C dx : Addr} {l : Addr} (hf : H f = some (.ins C dx (foF l))) {v : V} {b : Item} (h : ItemAt K H v b) : ItemAt K (off H f) v b := by
  obtain ⟨a, dx', q, rfl, h1, h3, h4⟩ := h
  refine ⟨a, dx', q, rfl, off_ne h1 hf ?_, off_ne h3 hf (fun z => nomatch z), h4⟩
  intro z
  injection z with _ _ z
  cases z
theorem nodeV_off {H : Hp} {f : Addr} {C dx : Addr} {l : Addr} (hf : H f = some (.ins C dx (foF l))) {lv : Int} {vs : List V} {bs : List Box} {v : V} (h : NodeV K H lv vs bs v) : NodeV K (off H f) lv vs bs v := by
  obtain ⟨p, dx', e, bv, rfl, h1, h2, h3, h4⟩ := h
  refine ⟨p, dx', e, bv, rfl, off_ne h1 hf ?_, off_ne h2 hf (fun z => nomatch z), Paired.impl (fun _ _ => ent_off hf) h3, ?_⟩
  · intro z
    injection z with _ _ z
    cases z
  · rcases h4 with h4 | ⟨h4, q, rfl, h5, h6⟩
    · exact .inl h4
    · exact .inr ⟨h4, q, rfl, off_ne h5 hf (fun z => nomatch z), h6⟩
theorem tree_off {H : Hp} {f : Addr} {C dx : Addr} {l : Addr} (hf : H f = some (.ins C dx (foF l))) : ∀ {n : Nat} {v : V} {t : Kvg6.Tree}, TreeV K H n v t → TreeV K (off H f) n v t
  | 0, v, .leaf items, h => by
    obtain ⟨h0, vs, h1, h2⟩ := h
    exact ⟨h0, vs, nodeV_off hf h1, Paired.impl (fun _ _ => item_off hf) h2⟩
  | n + 1, v, .node ch, h => by
    obtain ⟨h0, vs, h1, h2⟩ := h
    exact ⟨h0, vs, nodeV_off hf h1, Paired.impl (fun _ _ => tree_off hf) h2⟩
  | 0, _, .node _, h => h.elim
  | _ + 1, _, .leaf _, h => h.elim
theorem tv_off {H : Hp} {f : Addr} {C dx : Addr} {l : Addr} (hf : H f = some (.ins C dx (foF l))) {v : V} {t : Kvg6.Tree} (h : TV K H v t) : TV K (off H f) v t := by
  obtain ⟨n, h1, h2⟩ := h
  exact ⟨n, tree_off hf h1, h2⟩
/-- a new list of ints -/
def NewInts (H : Hp) (ns : List Int) (Q : VK) : Prop := ∀ q H', H q = none → Same H H' → H' q = some (.lst (ns.map V.int)) → Q (.ref q) H'
theorem NewInts.same {H H1 : Hp} {ns : List Int} {Q : VK} (h : NewInts H ns Q) (S : Same H H1) : NewInts H1 ns Q := fun q H' hq S' hq' => h q H' (S.free hq) (S.trans S') hq'
/-- all but the forest's own object is as it was -/
def But (f : Addr) (H H' : Hp) : Prop := ∀ b o, b ≠ f → H b = some o → H' b = some o
theorem But.of {f : Addr} {H H' : Hp} (S : Same (off H f) H') : But f H H' := fun b o hb e => S b o (off_at e hb)
/-- a change of the forest: the new list of what is answered, the new forest -/
def NewFor (K : PySem.W.Frag) (H : Hp) (f : Addr) (s : Kvg6.Index) (ns : List Int) (Q : VK) : Prop := ∀ q H', H q = none → But f H H' → ForestAt K H' f s → H' q = some (.lst (ns.map V.int)) → Q (.ref q) H'
def spFoI (K : PySem.W.Frag) : Sp := fun vs H Q _ => ∃ (p dx : Addr), vs = [.ref p] ∧ H p = some (.ins (He.ga K "Forest") dx []) ∧ ∀ H', Same (off H p) H' → ForestAt K H' p ⟨.leaf [], .leaf []⟩ → Q .non H'
theorem sc_Forest_init : FnScope ["self"] ["self"] (defScope s_Forest_init) := ⟨rfl, rfl, rfl, by decide +kernel, rfl, by decide +kernel, by decide +kernel⟩
theorem k_Forest_init (T : Tx K mg) : KnI P w K mg base "Forest" 7 ["self"] (spFoI K) := by
  have F := T.fn2 44 (c := "Forest") (m := "__init__") (q := "Forest.__init__") (st := s_Forest_init) rfl
  have sc := sc_Forest_init
  let st : Stmt := s_Forest_init
  let nn : List Str := ["self"]
  refine ⟨F.ok sc (fun vs H Q E h => ?_) (fun cdv A outer s H vs Q E hr h => ?_), F.binds fun _ _ _ _ _ _ us hl => match us, hl with | [_], _ => rfl, kcl_Forest T⟩

  · obtain ⟨p, dx, rfl, _⟩ := h
    rfl
  obtain ⟨p, dx, rfl, hp, k⟩ := h
  refine ⟨_, (pss_one (ps_fld (pv 0) (pe_lst (pa_cons (kc0 (k_empty_leaf T) hr) (pa_cons (kc0 (k_empty_leaf T) hr) pa_nil))) rfl)), ?_⟩
  refine ⟨rfl, fun p1 H1 hp1 S1 t1 => ⟨rfl, fun p2 H2 hp2 S2 t2 => ⟨by show 2 ≤ sizeLine; decide, fun l hl => ?_⟩⟩⟩
  have Sl := Same.upd (o := .lst [.ref p1, .ref p2]) hl
  have S3 := (S1.trans S2).trans Sl
  refine ⟨_, rfl, p, _, dx, _, rfl, S3 _ _ hp, (kcl_Forest T).cl, no_Forest_roots T, by decide, ?_⟩
  have hpe : off H p p = none := if_pos rfl
  have hlp : l ≠ p := (ne_of_none ((S1.trans S2) _ _ hp) hl).symm
  -- the trees stand apart from the forest
  have t1' := (S2.trans Sl).tree t1
  have t2' := Sl.tree t2
  have hp3 := S3 _ _ hp
  have l3 := upd_same (H := H2) (a := l) (o := .lst [.ref p1, .ref p2])
  generalize upd H2 l (.lst [.ref p1, .ref p2]) = H3 at *
  have far : ∀ {v : V}, TreeV K H3 0 v (.leaf []) → TreeV K (upd H3 p (.ins (He.ga K "Forest") dx (putF "roots" (.ref l) []))) 0 v (.leaf []) := fun {v} h => by
    obtain ⟨h0, vs, ⟨q, dq, e, bv, rfl, y1, y2, y3, y4⟩, y5⟩ := h
    cases y5
    refine ⟨h0, [], ⟨q, dq, e, bv, rfl, ?_, ?_, .nil, ?_⟩, .nil⟩
    · rw [upd_ne (ne_of y1 hp3 (fun z => by injection z with _ _ z; cases z))]
      exact y1
    · rw [upd_ne (ne_of y2 hp3 (fun z => nomatch z))]
      exact y2
    · rcases y4 with y4 | ⟨y4, _⟩
      · exact .inl y4
      · exact absurd rfl y4
  refine k _ ((off_same.trans S3).upd2 hpe) ⟨dx, l, .ref p1, .ref p2, upd_same, ?_, ⟨0, far t1', BF.empty_good⟩, ⟨0, far t2', BF.empty_good⟩⟩
  rw [upd_ne hlp]
  exact l3
def spRoot (K : PySem.W.Frag) : Sp := fun vs H Q E => ∃ (f : Addr) (i : Nat) (s : Kvg6.Index), vs = [.ref f, .int i] ∧ ForestAt K H f s ∧ (i ≤ 1 → ∀ v, TV K H v (s.tree i) → Q v H) ∧ (1 < i → Err K E H (-2))
theorem tree_cases {i : Nat} (h : i ≤ 1) (s : Kvg6.Index) : (i = 0 ∧ s.tree i = s.first) ∨ (i = 1 ∧ s.tree i = s.second) := by
  have : i = 0 ∨ i = 1 := by omega
  rcases this with rfl | rfl
  · exact .inl ⟨rfl, rfl⟩
  · exact .inr ⟨rfl, rfl⟩
theorem sc_Forest_root : FnScope ["self", "tree"] ["self", "tree"] (defScope s_Forest_root) := ⟨rfl, rfl, rfl, by decide +kernel, rfl, by decide +kernel, by decide +kernel⟩
theorem k_Forest_root (T : Tx K mg) : KnMX P w K mg base "Forest" "root" 4 ["self", "tree"] (spRoot K) := by
  have F := T.fn2 45 (c := "Forest") (m := "root") (q := "Forest.root") (st := s_Forest_root) rfl
  have sc := sc_Forest_root
  obtain ⟨tNO_TREE, gNO_TREE⟩ := T.int 105 (x := "NO_TREE") rfl
  let st : Stmt := s_Forest_root
  let nn : List Str := ["self", "tree"]
  refine ⟨F.okX sc (fun vs H Q E h => ?_) (fun cdv A outer s H vs Q E hr h => ?_), F.binds fun _ _ _ _ _ _ us hl => match us, hl with | [_, _], _ => rfl, (kcl_Forest T).cl, meth_Forest_root T⟩

  · obtain ⟨f, i, s, rfl, _⟩ := h
    rfl
  obtain ⟨f, i, s', rfl, hf, k1, k2⟩ := h
  refine ⟨_, (pss_cons (ps_expr (kcX (k_need T) hr (pa_cons (pe_cmpR op_lt (pv 1) pe_int (nomark _)) (pa_cons (pe_glob (v := .int (-2)) rfl gNO_TREE ⟨_, rfl⟩) pa_nil)) (passes_call (takes_of rfl rfl rfl rfl) fun _ _ _ _ h => h)))
      (pss_one (ps_ret (pe_ix ix_list (pe_fld (pv 0) rfl) (pv 1) (fun _ _ => rfl))))), ?_⟩
  obtain ⟨dx, l, v1, v2, h1, h2, h3, h4⟩ := hf
  refine ⟨_, rfl, _, _, rfl, rfl, _, _, rfl, fun c => ?_, fun c => ?_⟩
  · have c' : (i : Int) < 2 := of_decide_eq_true c
    refine ⟨_, rfl, f, _, dx, _, _, rfl, h1, (kcl_Forest T).cl, no_Forest_roots T, foF_roots, _, rfl, l, [v1, v2], ((i : Nat) : Int), ?_⟩
    rcases tree_cases (i := i) (by omega) s' with ⟨rfl, e⟩ | ⟨rfl, e⟩
    · exact ⟨v1, rfl, rfl, .inl (.inl h2), at_of (j := 0) rfl rfl, k1 (by decide) v1 (by rw [e]; exact h3)⟩
    · exact ⟨v2, rfl, rfl, .inl (.inl h2), at_of (j := 1) rfl rfl, k1 (by decide) v2 (by rw [e]; exact h4)⟩
  · have c' : ¬ (i : Int) < 2 := of_decide_eq_false c
    exact k2 (by omega)
def spFItem (K : PySem.W.Frag) : Sp := fun vs H Q E => ∃ (f : Addr) (i id : Nat) (s : Kvg6.Index), vs = [.ref f, .int i, .int id] ∧ ForestAt K H f s ∧ (1 < i → Err K E H (-2)) ∧
  (i ≤ 1 → Kvg6.find (s.tree i) id = none → Err K E H (-33)) ∧ (i ≤ 1 → ∀ it, Kvg6.find (s.tree i) id = some it → ∀ v H', Same H H' → ItemAt K H v it → Q v H')
theorem sc_Forest_item : FnScope ["self", "tree", "number", "found"] ["self", "tree", "number"] (defScope s_Forest_item) := ⟨rfl, rfl, rfl, by decide +kernel, rfl, by decide +kernel, by decide +kernel⟩
theorem k_Forest_item (T : Tx K mg) : KnMX P w K mg base "Forest" "item" 10 ["self", "tree", "number"] (spFItem K) := by
  have F := T.fn2 46 (c := "Forest") (m := "item") (q := "Forest.item") (st := s_Forest_item) rfl
  have sc := sc_Forest_item
  obtain ⟨tNOT_THERE, gNOT_THERE⟩ := T.int 109 (x := "NOT_THERE") rfl
  let st : Stmt := s_Forest_item
  let nn : List Str := ["self", "tree", "number", "found"]
  refine ⟨F.okX sc (fun vs H Q E h => ?_) (fun cdv A outer s H vs Q E hr h => ?_), F.binds fun _ _ _ _ _ _ us hl => match us, hl with | [_, _, _], _ => rfl, (kcl_Forest T).cl, meth_Forest_item T⟩

  · obtain ⟨f, i, id, s, rfl, _⟩ := h
    rfl
  obtain ⟨f, i, id, s', rfl, hf, k0, k1, k2⟩ := h
  refine ⟨_, (pss_cons (ps_set (i := 3) sc.nd rfl (Or.inl rfl) (kc (k_item_with T) hr (pa_cons (kmtX (k_Forest_root T) (pv 0) hr (pa_cons (pv 1) pa_nil) (passes_call (takes_of rfl rfl rfl rfl) fun _ _ _ _ h => h)) (pa_cons (pv 2) pa_nil))))
      (pss_cons (ps_expr (kcX (k_need T) hr (pa_cons (pe_cmpR op_notN (pv 3) pe_non (nomark _)) (pa_cons (pe_glob (v := .int (-33)) rfl gNOT_THERE ⟨_, rfl⟩) pa_nil)) (passes_call (takes_of rfl rfl rfl rfl) fun _ _ _ _ h => h)))
      (pss_one (ps_ret (pv 3))))), ?_⟩
  have hff := hf
  obtain ⟨dx, l, v1, v2, h1, _⟩ := hff
  refine ⟨_, rfl, f, dx, _, rfl, h1, foF_none (by decide +kernel), _, rfl, f, i, s', rfl, hf, fun hi v hv => ?_, fun hi => k0 hi⟩
  obtain ⟨n, ht, hg⟩ := hv
  have hlow := hg.low
  have k1 := k1 hi
  have k2 := k2 hi
  unfold Kvg6.find at k1 k2
  rw [hg.items] at k1 k2
  refine ⟨_, rfl, n, id, v, _, H, by omega, rfl, Same.refl _, ht, fun r H1 S1 hr1 => ?_⟩
  refine ⟨_, rfl, rfl, _, _, rfl, fun c => ?_, fun c => ?_⟩
  · cases q : (Kvg6.itemsOfTree n (s'.tree i)).find? (fun it => it.id == id) with
    | none =>
      rw [q] at hr1
      rw [show r = .non from hr1] at c
      cases c
    | some it =>
      rw [q] at hr1
      exact ⟨_, rfl, k2 it q r H1 S1 hr1⟩
  · cases q : (Kvg6.itemsOfTree n (s'.tree i)).find? (fun it => it.id == id) with
    | none => exact (k1 q).same S1
    | some it =>
      rw [q] at hr1
      obtain ⟨a, dx', q', rfl, _⟩ := (show ItemAt K H r it from hr1)
      cases c
def spRep (K : PySem.W.Frag) : Sp := fun vs H Q _ => ∃ (f : Addr) (i : Nat) (v : V) (s : Kvg6.Index) (t : Kvg6.Tree), vs = [.ref f, .int i, v] ∧ i ≤ 1 ∧ ForestAt K H f s ∧ TV K H v t ∧
  ∀ H', But f H H' → ForestAt K H' f (s.replace i t) → Q .non H'
/-- the forest gets another list of roots -/
theorem forest_put {H : Hp} {f dx l l' : Addr} {u1 u2 : V} {t1 t2 : Kvg6.Tree} (hf : H f = some (.ins (He.ga K "Forest") dx (foF l))) (hl : H l' = none) (h1 : TV K H u1 t1) (h2 : TV K H u2 t2) :
    But f H (upd (upd H l' (.lst [u1, u2])) f (.ins (He.ga K "Forest") dx (putF "roots" (.ref l') (foF l)))) ∧ ForestAt K (upd (upd H l' (.lst [u1, u2])) f (.ins (He.ga K "Forest") dx (putF "roots" (.ref l') (foF l)))) f ⟨t1, t2⟩ := by
  have hfe : off H f f = none := if_pos rfl
  have hlf : l' ≠ f := (ne_of_none hf hl).symm
  have S : Same (off H f) (upd (upd H l' (.lst [u1, u2])) f (.ins (He.ga K "Forest") dx (putF "roots" (.ref l') (foF l)))) := ((off_same.trans (Same.upd hl))).upd2 hfe
  refine ⟨But.of S, dx, l', u1, u2, ?_, ?_, S.tv (tv_off hf h1), S.tv (tv_off hf h2)⟩
  · rw [upd_same]
    show some (HO.ins _ dx (putF "roots" (.ref l') [("roots", .ref l)])) = _
    rw [put_here]
    rfl
  · rw [upd_ne hlf]
    exact upd_same
theorem sc_Forest_replace_root : FnScope ["self", "tree", "root"] ["self", "tree", "root"] (defScope s_Forest_replace_root) := ⟨rfl, rfl, rfl, by decide +kernel, rfl, by decide +kernel, by decide +kernel⟩
theorem k_Forest_replace_root (T : Tx K mg) : KnM P w K mg base "Forest" "replace_root" 1 ["self", "tree", "root"] (spRep K) := by
  have F := T.fn2 47 (c := "Forest") (m := "replace_root") (q := "Forest.replace_root") (st := s_Forest_replace_root) rfl
  have sc := sc_Forest_replace_root
  let st : Stmt := s_Forest_replace_root
  let nn : List Str := ["self", "tree", "root"]
  refine ⟨F.ok sc (fun vs H Q E h => ?_) (fun cdv A outer s H vs Q E hr h => ?_), F.binds fun _ _ _ _ _ _ us hl => match us, hl with | [_, _, _], _ => rfl, (kcl_Forest T).cl, meth_Forest_replace_root T⟩

  · obtain ⟨f, i, v, s, t, rfl, _⟩ := h
    rfl
  obtain ⟨f, i, v, s', t, rfl, hi, hf, hv, k⟩ := h
  refine ⟨_, (pss_one (ps_fld (pv 0) (pe_ifExp (pt_cmpR op_eq (pv 1) pe_int (nomark _)) (pe_lst (pa_cons (pv 2) (pa_cons (pe_ix ix_list (pe_fld (pv 0) rfl) pe_int (fun _ _ => rfl)) pa_nil))) (pe_lst (pa_cons (pe_ix ix_list (pe_fld (pv 0) rfl) pe_int (fun _ _ => rfl)) (pa_cons (pv 2) pa_nil)))) rfl)), ?_⟩
  obtain ⟨dx, l, v1, v2, h1, h2, h3, h4⟩ := hf
  refine ⟨_, rfl, rfl, _, rfl, ?_⟩
  rcases tree_cases hi s' with ⟨rfl, e⟩ | ⟨rfl, e⟩
  · rw [decide_eq_true (by rfl)]
    refine iteT ⟨_, rfl, _, rfl, f, _, dx, _, _, rfl, h1, (kcl_Forest T).cl, no_Forest_roots T, foF_roots, l, _, 1, _, rfl, rfl, .inl (.inl h2), at_of (j := 1) rfl rfl, by show 2 ≤ sizeLine; decide, fun l' hl' => ?_⟩
    refine ⟨_, rfl, f, _, dx, _, rfl, (Same.upd hl') _ _ h1, (kcl_Forest T).cl, no_Forest_roots T, by show 1 < 1000; decide, ?_⟩
    obtain ⟨y1, y2⟩ := forest_put h1 hl' hv h4
    exact k _ y1 y2
  · rw [decide_eq_false (by decide)]
    refine iteF ⟨_, rfl, f, _, dx, _, _, rfl, h1, (kcl_Forest T).cl, no_Forest_roots T, foF_roots, l, _, 0, _, rfl, rfl, .inl (.inl h2), at_of (j := 0) rfl rfl, _, rfl, by show 2 ≤ sizeLine; decide, fun l' hl' => ?_⟩
    refine ⟨_, rfl, f, _, dx, _, rfl, (Same.upd hl') _ _ h1, (kcl_Forest T).cl, no_Forest_roots T, by show 1 < 1000; decide, ?_⟩
    obtain ⟨y1, y2⟩ := forest_put h1 hl' h3 hv
    exact k _ y1 y2
def spSwap (K : PySem.W.Frag) : Sp := fun vs H Q _ => ∃ (f : Addr) (s : Kvg6.Index), vs = [.ref f] ∧ ForestAt K H f s ∧ NewFor K H f ⟨s.second, s.first⟩ [0] Q
theorem sc_Forest_swap_trees : FnScope ["self"] ["self"] (defScope s_Forest_swap_trees) := ⟨rfl, rfl, rfl, by decide +kernel, rfl, by decide +kernel, by decide +kernel⟩
theorem k_Forest_swap_trees (T : Tx K mg) : KnM P w K mg base "Forest" "swap_trees" 1 ["self"] (spSwap K) := by
  have F := T.fn2 53 (c := "Forest") (m := "swap_trees") (q := "Forest.swap_trees") (st := s_Forest_swap_trees) rfl
  have sc := sc_Forest_swap_trees
  let st : Stmt := s_Forest_swap_trees
  let nn : List Str := ["self"]
  refine ⟨F.ok sc (fun vs H Q E h => ?_) (fun cdv A outer s H vs Q E hr h => ?_), F.binds fun _ _ _ _ _ _ us hl => match us, hl with | [_], _ => rfl, (kcl_Forest T).cl, meth_Forest_swap_trees T⟩

  · obtain ⟨f, s, rfl, _⟩ := h
    rfl
  obtain ⟨f, s', rfl, hf, k⟩ := h
  refine ⟨_, (pss_cons (ps_fld (pv 0) (pe_lst (pa_cons (pe_ix ix_list (pe_fld (pv 0) rfl) pe_int (fun _ _ => rfl)) (pa_cons (pe_ix ix_list (pe_fld (pv 0) rfl) pe_int (fun _ _ => rfl)) pa_nil))) rfl)
      (pss_one (ps_ret (pe_lst (pa_cons pe_int pa_nil))))), ?_⟩
  obtain ⟨dx, l, v1, v2, h1, h2, h3, h4⟩ := hf
  refine ⟨_, rfl, f, _, dx, _, _, rfl, h1, (kcl_Forest T).cl, no_Forest_roots T, foF_roots, l, _, 1, _, rfl, rfl, .inl (.inl h2), at_of (j := 1) rfl rfl, _, rfl, f, _, dx, _, _, rfl, h1, (kcl_Forest T).cl, no_Forest_roots T, foF_roots, l, _, 0, _, rfl, rfl, .inl (.inl h2), at_of (j := 0) rfl rfl, by show 2 ≤ sizeLine; decide, fun l' hl' => ?_⟩
  refine ⟨_, rfl, f, _, dx, _, rfl, (Same.upd hl') _ _ h1, (kcl_Forest T).cl, no_Forest_roots T, by show 1 < 1000; decide, ?_⟩
  obtain ⟨y1, y2⟩ := forest_put h1 hl' h4 h3
  refine ⟨by show 1 ≤ sizeLine; decide, fun q hq => ?_⟩
  refine k q _ ?_ (fun b o hb e => (Same.upd hq) _ _ (y1 b o hb e)) ((Same.upd hq).forest y2) upd_same
  have hqf : q ≠ f := fun z => by rw [z, upd_same] at hq; cases hq
  cases e : H q with
  | none => rfl
  | some o =>
    have := y1 q o hqf e
    rw [hq] at this
    cases this
end
end BFW
namespace BFW
open PySem PySem.Spec PyProof.Rows L2 BFH
open Kvg6 (Box Item)
open BF (BoxOk ItOk)
section
variable {P : Program} {w : World} {K : PySem.W.Frag} {mg : Str → Option Value} {base : Heap}
/-- what an operation that may change the forest gives -/
def OpOut (K : PySem.W.Frag) (H : Hp) (f : Addr) (R : Kvg6.Index × Kvg6.Response) (Q : VK) (E : XK) : Prop := (R.2.code < 0 → Err K E H R.2.code) ∧ (0 ≤ R.2.code → NewFor K H f R.1 (R.2.code :: R.2.values) Q)
theorem OpOut.err {H H1 : Hp} {f : Addr} {R : Kvg6.Index × Kvg6.Response} {Q : VK} {E : XK} (h : OpOut K H f R Q E) {s : Kvg6.Index} {c : Int} (e : R = (s, .error c)) (hc : c < 0) (S : Same H H1) : Err K E H1 c := by
  subst e
  exact (h.1 hc).same S
theorem OpOut.new {H : Hp} {f : Addr} {R : Kvg6.Index × Kvg6.Response} {Q : VK} {E : XK} (h : OpOut K H f R Q E) {s : Kvg6.Index} {c : Int} {ns : List Int} (e : R = (s, ⟨c, ns⟩)) (hc : 0 ≤ c) : NewFor K H f s (c :: ns) Q := by
  subst e
  exact h.2 hc
/-- the end: behind the new roots, a list of ints is made -/
theorem newFor_end {H H1 H2 : Hp} {f : Addr} {s : Kvg6.Index} {ns : List Int} {Q : VK} (h : NewFor K H f s ns Q) (S : Same H H1) (B : But f H1 H2) (hf : ForestAt K H2 f s) {q : Addr} {H3 : Hp} (hq : H2 q = none) (S3 : Same H2 H3) (hq3 : H3 q = some (.lst (ns.map V.int))) (hfs : ∃ o, H2 f = some o) : Q (.ref q) H3 := by
  refine h q H3 ?_ (fun b o hb e => S3 _ _ (B b o hb (S _ _ e))) (S3.forest hf) hq3
  cases e : H q with
  | none => rfl
  | some o =>
    have hqf : q ≠ f := fun z => by
      obtain ⟨o', ho'⟩ := hfs
      rw [z, ho'] at hq
      cases hq
    rw [B q o hqf (S _ _ e)] at hq
    cases hq
theorem forest_here {H : Hp} {f : Addr} {s : Kvg6.Index} (h : ForestAt K H f s) : ∃ o, H f = some o := by
  obtain ⟨dx, l, v1, v2, h1, _⟩ := h
  exact ⟨_, h1⟩
theorem find_none {l : List Item} {id : Nat} (h : (l.find? fun it => it.id == id) = none) : id ∉ BF.ids l := by
  intro z
  obtain ⟨it, hi, e⟩ := List.mem_map.mp z
  have := List.find?_eq_none.mp h it hi
  simp [e] at this
theorem find_some {l : List Item} {id : Nat} {it : Item} (h : (l.find? fun it => it.id == id) = some it) : it ∈ l ∧ it.id = id := by
  exact ⟨List.mem_of_find?_eq_some h, by simpa using List.find?_some h⟩
def spFIns (K : PySem.W.Frag) : Sp := fun vs H Q E => ∃ (f a : Addr) (i id : Nat) (ns : List Int) (s : Kvg6.Index), vs = [.ref f, .int i, .int id, .ref a] ∧ ForestAt K H f s ∧ H a = some (.lst (ns.map V.int)) ∧ ns.length ≤ 300 ∧ OpOut K H f (s.run (.insert i id ns)) Q E
theorem sc_Forest_insert : FnScope ["self", "tree", "number", "values", "root", "item", "many"] ["self", "tree", "number", "values"] (defScope s_Forest_insert) := ⟨rfl, rfl, rfl, by decide +kernel, rfl, by decide +kernel, by decide +kernel⟩
theorem k_Forest_insert (T : Tx K mg) : KnMX P w K mg base "Forest" "insert" 16 ["self", "tree", "number", "values"] (spFIns K) := by
  have F := T.fn2 48 (c := "Forest") (m := "insert") (q := "Forest.insert") (st := s_Forest_insert) rfl
  have sc := sc_Forest_insert
  obtain ⟨tGREATEST_NUMBER, gGREATEST_NUMBER⟩ := T.int 116 (x := "GREATEST_NUMBER") rfl
  obtain ⟨tMOST_ITEMS, gMOST_ITEMS⟩ := T.int 115 (x := "MOST_ITEMS") rfl
  obtain ⟨tOUT_OF_RANGE, gOUT_OF_RANGE⟩ := T.int 107 (x := "OUT_OF_RANGE") rfl
  obtain ⟨tTOO_MANY, gTOO_MANY⟩ := T.int 108 (x := "TOO_MANY") rfl
  obtain ⟨tTWICE, gTWICE⟩ := T.int 106 (x := "TWICE") rfl
  let st : Stmt := s_Forest_insert
  let nn : List Str := ["self", "tree", "number", "values", "root", "item", "many"]
  refine ⟨F.okX sc (fun vs H Q E h => ?_) (fun cdv A outer s H vs Q E hr h => ?_), F.binds fun _ _ _ _ _ _ us hl => match us, hl with | [_, _, _, _], _ => rfl, (kcl_Forest T).cl, meth_Forest_insert T⟩

  · obtain ⟨f, a, i, id, ns, s, rfl, _⟩ := h
    rfl
  obtain ⟨f, a, i, id, ns, s', rfl, hf, ha, h300, k⟩ := h
  refine ⟨_, (pss_cons (ps_set (i := 4) sc.nd rfl (Or.inl rfl) (kmtX (k_Forest_root T) (pv 0) hr (pa_cons (pv 1) pa_nil) (passes_call (takes_of rfl rfl rfl rfl) fun _ _ _ _ h => h)))
      (pss_cons (ps_set (i := 5) sc.nd rfl (Or.inl rfl) (km (k_Item_init T) hr (pa_cons (pv 2) (pa_cons (kcX (k_box_from T) hr (pa_cons (pv 3) pa_nil) (passes_call (takes_of rfl rfl rfl rfl) fun _ _ _ _ h => h)) pa_nil))))
      (pss_cons (ps_expr (kcX (k_need T) hr (pa_cons (pe_cmpR op_le (pv 2) (pe_glob (v := .int (65535)) rfl gGREATEST_NUMBER ⟨_, rfl⟩) (nomark _)) (pa_cons (pe_glob (v := .int (-22)) rfl gOUT_OF_RANGE ⟨_, rfl⟩) pa_nil)) (passes_call (takes_of rfl rfl rfl rfl) fun _ _ _ _ h => h)))
      (pss_cons (ps_expr (kcX (k_need T) hr (pa_cons (pe_cmpR op_isN (kc (k_item_with T) hr (pa_cons (pv 4) (pa_cons (pv 2) pa_nil))) pe_non (nomark _)) (pa_cons (pe_glob (v := .int (-17)) rfl gTWICE ⟨_, rfl⟩) pa_nil)) (passes_call (takes_of rfl rfl rfl rfl) fun _ _ _ _ h => h)))
      (pss_cons (ps_set (i := 6) sc.nd rfl (Or.inl rfl) (pe_callB call_len_seq (by rfl) (T.free 91) PySem.boot_len (pa_cons (kc (k_items_below T) hr (pa_cons (pv 4) pa_nil)) pa_nil)))
      (pss_cons (ps_expr (kcX (k_need T) hr (pa_cons (pe_cmpR op_lt (pv 6) (pe_glob (v := .int (48)) rfl gMOST_ITEMS ⟨_, rfl⟩) (nomark _)) (pa_cons (pe_glob (v := .int (-28)) rfl gTOO_MANY ⟨_, rfl⟩) pa_nil)) (passes_call (takes_of rfl rfl rfl rfl) fun _ _ _ _ h => h)))
      (pss_cons (ps_expr (kmt (k_Forest_replace_root T) (pv 0) hr (pa_cons (pv 1) (pa_cons (kc (k_with_item T) hr (pa_cons (pv 4) (pa_cons (pv 5) pa_nil))) pa_nil))))
      (pss_one (ps_ret (pe_lst (pa_cons (pe_op op_add (pv 6) pe_int) pa_nil))))))))))), ?_⟩
  have hff := hf
  obtain ⟨dx, l, v1, v2, h1, _⟩ := hff
  refine ⟨_, rfl, f, dx, _, rfl, h1, foF_none (by decide +kernel), _, rfl, f, i, s', rfl, hf, fun hi v hv => ?_, fun hi => k.err (s := s') (if_pos hi) (by decide) (Same.refl H)⟩
  obtain ⟨n, ht, hg⟩ := hv
  have hlow := hg.low
  have hrun : ∀ b, Kvg6.boxOf ns = some b → s'.run (.insert i id ns) = if 65535 < id then (s', .error (-22)) else if (Kvg6.find (s'.tree i) id).isSome then (s', .error (-17)) else if 48 ≤ (s'.tree i).items.length then (s', .error (-28)) else (s'.replace i (Kvg6.insert (s'.tree i) ⟨id, b⟩), .number ((s'.tree i).items.length + 1)) := fun b hb => by
    show (if 1 < i then _ else match Kvg6.boxOf ns with
      | none => _
      | some box => _) = _
    rw [if_neg (by omega), hb]
    rfl
  refine ⟨_, rfl, _, rfl, a, ns, rfl, ha, h300, fun b hb q H1 hq S1 hb1 => ?_, fun hb => k.err (s := s') ?_ (by decide) (Same.refl H)⟩
  rotate_left
  · show (if 1 < i then _ else match Kvg6.boxOf ns with
      | none => _
      | some box => _) = _
    rw [if_neg (by omega), hb]
  rw [hrun b hb] at k
  refine make_item fun x H2 hx S2 hit => ?_
  have S12 := S1.trans S2
  obtain ⟨dxi, hxi⟩ := hit
  have hitem : ItemAt K H2 (.ref x) ⟨id, b⟩ := ⟨x, dxi, q, rfl, hxi, S2.box hb1⟩
  refine ⟨_, rfl, _, _, rfl, rfl, _, _, rfl, fun c => ?_, fun c => ?_⟩
  rotate_left
  · have c' := of_decide_eq_false c
    exact k.err (s := s') (if_pos (by omega)) (by decide) S12
  have c' : (id : Int) ≤ 65535 := of_decide_eq_true c
  rw [if_neg (by omega)] at k
  refine ⟨_, rfl, _, rfl, n, id, v, _, H, by omega, rfl, S12, ht, fun r H3 S3 hr3 => ?_⟩
  have hfd : Kvg6.find (s'.tree i) id = (Kvg6.itemsOfTree n (s'.tree i)).find? (fun it => it.id == id) := by
    unfold Kvg6.find
    rw [hg.items]
  rw [hfd, hg.items] at k
  have S13 := S12.trans S3
  refine ⟨rfl, _, _, rfl, fun c2 => ?_, fun c2 => ?_⟩
  rotate_left
  · cases e : (Kvg6.itemsOfTree n (s'.tree i)).find? (fun it => it.id == id) with
    | none =>
      rw [e] at hr3
      rw [show r = .non from hr3] at c2
      cases c2
    | some it =>
      rw [e] at k
      exact k.err (s := s') (if_pos rfl) (by decide) S13
  have hfn : (Kvg6.itemsOfTree n (s'.tree i)).find? (fun it => it.id == id) = none := by
    cases e : (Kvg6.itemsOfTree n (s'.tree i)).find? (fun it => it.id == id) with
    | none => rfl
    | some it =>
      rw [e] at hr3
      obtain ⟨a', dx', q', rfl, _⟩ := (show ItemAt K H r it from hr3)
      cases c2
  rw [hfn, if_neg (show ¬ ((none : Option Item).isSome = true) by decide)] at k
  refine ⟨_, rfl, n, v, _, H, by omega, rfl, S13, ht, fun q4 xs H4 hq4 S4 hx4 hp4 => ?_⟩
  have S14 := S13.trans S4
  refine ⟨q4, xs, rfl, .inl (.inl (.inl hx4)), ?_⟩
  rw [hp4.len]
  refine ⟨_, rfl, _, _, rfl, rfl, _, _, rfl, fun c3 => ?_, fun c3 => ?_⟩
  rotate_left
  · have c' := of_decide_eq_false c3
    exact k.err (s := s') (if_pos (by omega)) (by decide) S14
  have c3' : ((Kvg6.itemsOfTree n (s'.tree i)).length : Int) < 48 := of_decide_eq_true c3
  rw [if_neg (by omega)] at k
  have hf4 := S14.forest hf
  have hff4 := hf4
  obtain ⟨dx4, l4, v14, v24, h14, _⟩ := hff4
  refine ⟨_, rfl, f, dx4, _, rfl, h14, foF_none (by decide +kernel), _, rfl, _, rfl, _, rfl, n, v, .ref x, _, ⟨id, b⟩, by omega, rfl, S14.tree ht, hg.root, (S3.trans S4).item hitem, fun r5 m5 H5 S5 hm5 hr5 => ?_⟩
  rw [← BF.insert_eq hg.root.bal (by omega)] at hr5
  obtain ⟨m6, g6, p6⟩ := BF.insert_good hg (it := ⟨id, b⟩) ⟨(BF.boxOf_some hb).2, by show id ≤ 65535; omega⟩ (by omega) (find_none hfn)
  have em : m6 = m5 := hr5.lvl g6.root.ne
  subst em
  refine ⟨f, i, r5, s', _, rfl, hi, S5.forest hf4, ⟨m6, hr5, g6⟩, fun H6 B6 hf6 => ?_⟩
  refine ⟨_, rfl, _, _, rfl, rfl, by show 1 ≤ sizeLine; decide, fun q7 hq7 => ?_⟩
  refine newFor_end (k.new (s := s'.replace i (Kvg6.insert (s'.tree i) ⟨id, b⟩)) (c := ((Kvg6.itemsOfTree n (s'.tree i)).length + 1 : Nat)) (ns := []) rfl (by omega)) (S14.trans S5) B6 hf6 hq7 (Same.upd hq7) ?_ (forest_here hf6)
  rw [upd_same]
  rfl
def spFRem (K : PySem.W.Frag) : Sp := fun vs H Q E => ∃ (f : Addr) (i id : Nat) (s : Kvg6.Index), vs = [.ref f, .int i, .int id] ∧ ForestAt K H f s ∧ OpOut K H f (s.run (.remove i id)) Q E
theorem has_of_find {n : Nat} {t : Kvg6.Tree} {id : Nat} {it : Item} (h : (Kvg6.itemsOfTree n t).find? (fun it => it.id == id) = some it) : BF.has n t id = true := by
  rw [← BF.has_find, h]
  rfl
theorem sc_Forest_remove_item : FnScope ["self", "tree", "number", "item", "root"] ["self", "tree", "number"] (defScope s_Forest_remove_item) := ⟨rfl, rfl, rfl, by decide +kernel, rfl, by decide +kernel, by decide +kernel⟩
theorem k_Forest_remove_item (T : Tx K mg) : KnMX P w K mg base "Forest" "remove_item" 19 ["self", "tree", "number"] (spFRem K) := by
  have F := T.fn2 49 (c := "Forest") (m := "remove_item") (q := "Forest.remove_item") (st := s_Forest_remove_item) rfl
  have sc := sc_Forest_remove_item
  let st : Stmt := s_Forest_remove_item
  let nn : List Str := ["self", "tree", "number", "item", "root"]
  refine ⟨F.okX sc (fun vs H Q E h => ?_) (fun cdv A outer s H vs Q E hr h => ?_), F.binds fun _ _ _ _ _ _ us hl => match us, hl with | [_, _, _], _ => rfl, (kcl_Forest T).cl, meth_Forest_remove_item T⟩

  · obtain ⟨f, i, id, s, rfl, _⟩ := h
    rfl
  obtain ⟨f, i, id, s', rfl, hf, k⟩ := h
  refine ⟨_, (pss_cons (ps_set (i := 3) sc.nd rfl (Or.inl rfl) (kmtX (k_Forest_item T) (pv 0) hr (pa_cons (pv 1) (pa_cons (pv 2) pa_nil)) (passes_call (takes_of rfl rfl rfl rfl) fun _ _ _ _ h => h)))
      (pss_cons (ps_set (i := 4) sc.nd rfl (Or.inl rfl) (kc (k_without_item T) hr (pa_cons (kmtX (k_Forest_root T) (pv 0) hr (pa_cons (pv 1) pa_nil) (passes_call (takes_of rfl rfl rfl rfl) fun _ _ _ _ h => h)) (pa_cons (pe_fld (pv 3) rfl) pa_nil))))
      (pss_cons (ps_expr (kmt (k_Forest_replace_root T) (pv 0) hr (pa_cons (pv 1) (pa_cons (pv 4) pa_nil))))
      (pss_one (ps_ret (pe_lst (pa_cons (pe_callB call_len_seq (by rfl) (T.free 91) PySem.boot_len (pa_cons (kc (k_items_below T) hr (pa_cons (pv 4) pa_nil)) pa_nil)) pa_nil))))))), ?_⟩
  have hff := hf
  obtain ⟨dx, l, v1, v2, h1, _⟩ := hff
  have hrun : i ≤ 1 → s'.run (.remove i id) = if (Kvg6.find (s'.tree i) id).isNone then (s', .error (-33)) else (s'.replace i (Kvg6.remove (s'.tree i) id), .number ((s'.tree i).items.length - 1)) := fun hi => if_neg (by omega)
  refine ⟨_, rfl, f, dx, _, rfl, h1, foF_none (by decide +kernel), _, rfl, _, rfl, f, i, id, s', rfl, hf, fun hi => k.err (s := s') (if_pos hi) (by decide) (Same.refl H), fun hi hn => ?_, fun hi it hit v H1 S1 hv => ?_⟩
  · rw [hrun hi, hn] at k
    exact k.err (s := s') rfl (by decide) (Same.refl H)
  rw [hrun hi, hit] at k
  rw [if_neg (by simp)] at k
  have hf1 := S1.forest hf
  have h11 := S1 _ _ h1
  refine ⟨_, rfl, f, dx, _, rfl, h11, foF_none (by decide +kernel), _, rfl, f, i, s', rfl, hf1, fun _ u hu => ?_, fun hi' => by omega⟩
  obtain ⟨n, ht, hg⟩ := hu
  have hfd : Kvg6.find (s'.tree i) id = (Kvg6.itemsOfTree n (s'.tree i)).find? (fun it => it.id == id) := by
    unfold Kvg6.find
    rw [hg.items]
  rw [hfd] at hit
  have eid := (find_some hit).2
  have hhas := has_of_find hit
  have hv1 := S1.item hv
  obtain ⟨va, vdx, vq, rfl, hva, _⟩ := hv1
  refine ⟨_, rfl, _, _, _, _, _, rfl, hva, (kcl_Item T).cl, no_Item_number T, itF_number, n, id, u, _, by rw [eid]; rfl, ht, hg, hhas, fun r m H2 S2 hgm hr2 => ?_⟩
  have hf2 := S2.forest hf1
  refine ⟨_, rfl, f, dx, _, rfl, S2 _ _ h11, foF_none (by decide +kernel), _, rfl, _, rfl, f, i, r, s', _, rfl, hi, hf2, ⟨m, hr2, hgm⟩, fun H3 B3 hf3 => ?_⟩
  -- the new root in the changed heap
  obtain ⟨dx2, l2, u1, u2, y1, y2, y3, y4⟩ := hf2
  have hr3 : TreeV K H3 m r (Kvg6.remove (s'.tree i) id) := by
    have hS : Same (off H2 f) H3 := fun b o e => by
      have hb : b ≠ f := fun z => by
        rw [z] at e
        have : off H2 f f = none := if_pos rfl
        rw [this] at e
        cases e
      exact B3 b o hb (off_same _ _ e)
    exact hS.tree (tree_off y1 hr2)
  have hml := hgm.low
  refine ⟨_, rfl, m, r, _, H3, by omega, rfl, Same.refl _, hr3, fun q4 xs H4 hq4 S4 hx4 hp4 => ?_⟩
  refine ⟨q4, xs, rfl, .inl (.inl (.inl hx4)), by show 1 ≤ sizeLine; decide, fun q5 hq5 => ?_⟩
  have hS5 := S4.upd3 (o := .lst [.int (xs.length : Nat)]) hq5
  refine newFor_end (k.new (s := s'.replace i (Kvg6.remove (s'.tree i) id)) (c := ((s'.tree i).items.length - 1 : Nat)) (ns := []) rfl (by omega)) (S1.trans S2) B3 hf3 (S4.free hq5) hS5 ?_ (forest_here hf3)
  rw [upd_same, hp4.len, ← hgm.items, BF.remove_len hg hhas]
  rfl
def spFUpd (K : PySem.W.Frag) : Sp := fun vs H Q E => ∃ (f a : Addr) (i id : Nat) (ns : List Int) (s : Kvg6.Index), vs = [.ref f, .int i, .int id, .ref a] ∧ ForestAt K H f s ∧ H a = some (.lst (ns.map V.int)) ∧ ns.length ≤ 300 ∧ OpOut K H f (s.run (.update i id ns)) Q E
theorem sc_Forest_update_item : FnScope ["self", "tree", "number", "values", "root", "box", "former"] ["self", "tree", "number", "values"] (defScope s_Forest_update_item) := ⟨rfl, rfl, rfl, by decide +kernel, rfl, by decide +kernel, by decide +kernel⟩
theorem k_Forest_update_item (T : Tx K mg) : KnMX P w K mg base "Forest" "update_item" 19 ["self", "tree", "number", "values"] (spFUpd K) := by
  have F := T.fn2 50 (c := "Forest") (m := "update_item") (q := "Forest.update_item") (st := s_Forest_update_item) rfl
  have sc := sc_Forest_update_item
  let st : Stmt := s_Forest_update_item
  let nn : List Str := ["self", "tree", "number", "values", "root", "box", "former"]
  refine ⟨F.okX sc (fun vs H Q E h => ?_) (fun cdv A outer s H vs Q E hr h => ?_), F.binds fun _ _ _ _ _ _ us hl => match us, hl with | [_, _, _, _], _ => rfl, (kcl_Forest T).cl, meth_Forest_update_item T⟩

  · obtain ⟨f, a, i, id, ns, s, rfl, _⟩ := h
    rfl
  obtain ⟨f, a, i, id, ns, s', rfl, hf, ha, h300, k⟩ := h
  refine ⟨_, (pss_cons (ps_set (i := 4) sc.nd rfl (Or.inl rfl) (kmtX (k_Forest_root T) (pv 0) hr (pa_cons (pv 1) pa_nil) (passes_call (takes_of rfl rfl rfl rfl) fun _ _ _ _ h => h)))
      (pss_cons (ps_set (i := 5) sc.nd rfl (Or.inl rfl) (kcX (k_box_from T) hr (pa_cons (pv 3) pa_nil) (passes_call (takes_of rfl rfl rfl rfl) fun _ _ _ _ h => h)))
      (pss_cons (ps_set (i := 6) sc.nd rfl (Or.inl rfl) (kmtX (k_Forest_item T) (pv 0) hr (pa_cons (pv 1) (pa_cons (pv 2) pa_nil)) (passes_call (takes_of rfl rfl rfl rfl) fun _ _ _ _ h => h)))
      (pss_cons (ps_expr (kmt (k_Forest_replace_root T) (pv 0) hr (pa_cons (pv 1) (pa_cons (kc (k_with_item T) hr (pa_cons (kc (k_without_item T) hr (pa_cons (pv 4) (pa_cons (pv 2) pa_nil))) (pa_cons (km (k_Item_init T) hr (pa_cons (pv 2) (pa_cons (pv 5) pa_nil))) pa_nil))) pa_nil))))
      (pss_one (ps_ret (pe_op op_cat (pe_lst (pa_cons pe_int pa_nil)) (pe_callTy call_list_of (by rfl) (T.free 100) boot_list (pa_cons (pe_fld (pv 6) rfl) pa_nil))))))))), ?_⟩
  have hff := hf
  obtain ⟨dx, l, v1, v2, h1, _⟩ := hff
  refine ⟨_, rfl, f, dx, _, rfl, h1, foF_none (by decide +kernel), _, rfl, f, i, s', rfl, hf, fun hi v hv => ?_, fun hi => k.err (s := s') (if_pos hi) (by decide) (Same.refl H)⟩
  obtain ⟨n, ht, hg⟩ := hv
  have hlow := hg.low
  have hrun : ∀ b, Kvg6.boxOf ns = some b → s'.run (.update i id ns) = match Kvg6.find (s'.tree i) id with
      | none => (s', .error (-33))
      | some old => (s'.replace i (Kvg6.insert (Kvg6.remove (s'.tree i) id) ⟨id, b⟩), ⟨0, Kvg6.boxValues old.box⟩) := fun b hb => by
    show (if 1 < i then _ else match Kvg6.boxOf ns with
      | none => _
      | some box => _) = _
    rw [if_neg (by omega), hb]
    rfl
  refine ⟨_, rfl, a, ns, rfl, ha, h300, fun b hb q H1 hq S1 hb1 => ?_, fun hb => k.err (s := s') ?_ (by decide) (Same.refl H)⟩
  rotate_left
  · show (if 1 < i then _ else match Kvg6.boxOf ns with
      | none => _
      | some box => _) = _
    rw [if_neg (by omega), hb]
  rw [hrun b hb] at k
  refine ⟨_, rfl, f, dx, _, rfl, S1 _ _ h1, foF_none (by decide +kernel), _, rfl, _, rfl, f, i, id, s', rfl, S1.forest hf, fun hi' => by omega, fun _ hn => ?_, fun _ it hit vo H2 S2 hvo => ?_⟩
  · rw [hn] at k
    exact k.err (s := s') rfl (by decide) S1
  rw [hit] at k
  have hfd : Kvg6.find (s'.tree i) id = (Kvg6.itemsOfTree n (s'.tree i)).find? (fun it => it.id == id) := by
    unfold Kvg6.find
    rw [hg.items]
  rw [hfd] at hit
  obtain ⟨himem, eid⟩ := find_some hit
  have hhas := has_of_find hit
  have S12 := S1.trans S2
  refine ⟨_, rfl, f, dx, _, rfl, S12 _ _ h1, foF_none (by decide +kernel), _, rfl, _, rfl, _, rfl, n, id, v, _, rfl, S12.tree ht, hg, hhas, fun r m H3 S3 hgm hr3 => ?_⟩
  refine ⟨_, rfl, _, rfl, make_item fun x H4 hx S4 hit4 => ?_⟩
  obtain ⟨dxi, hxi⟩ := hit4
  have S24 := (S2.trans S3).trans S4
  have hitem : ItemAt K H4 (.ref x) ⟨id, b⟩ := ⟨x, dxi, q, rfl, hxi, S24.box hb1⟩
  have hml := hgm.low
  refine ⟨m, r, .ref x, _, ⟨id, b⟩, by omega, rfl, S4.tree hr3, hgm.root, hitem, fun r5 m5 H5 S5 hm5 hr5 => ?_⟩
  rw [← BF.insert_eq hgm.root.bal (by omega)] at hr5
  obtain ⟨m0, g0, p0⟩ := BF.remove_good hg hhas
  have em0 : m0 = m := hr3.lvl g0.root.ne
  subst em0
  have hfl := BF.filter_one hg.nodup hhas
  have hsz := hg.size
  obtain ⟨m6, g6, p6⟩ := BF.insert_good g0 (it := ⟨id, b⟩) ⟨(BF.boxOf_some hb).2, by show id ≤ 65535; rw [← eid]; exact (hg.ok it himem).2⟩ (by rw [p0.length_eq]; omega) (by
    intro z
    have z1 := (p0.map Item.id).mem_iff.mp z
    obtain ⟨it', hi', e'⟩ := List.mem_map.mp z1
    have := (List.mem_filter.mp hi').2
    simp [e'] at this)
  have em : m6 = m5 := hr5.lvl g6.root.ne
  subst em
  have S15 := ((S1.trans S24).trans S5)
  refine ⟨f, i, r5, s', _, rfl, hi, S15.forest hf, ⟨m6, hr5, g6⟩, fun H6 B6 hf6 => ?_⟩
  -- what was answered: the former box
  obtain ⟨oa, odx, oq, rfl, hoa, hob⟩ := hvo
  have hof : oa ≠ f := by
    refine ne_of hoa (S1 _ _ h1) ?_
    intro z
    injection z with _ _ z
    cases z
  have hoq : oq ≠ f := ne_of hob.1 (S1 _ _ h1) (fun z => nomatch z)
  have ho6 := B6 oa _ hof (((S2.trans (S3.trans S4)).trans S5) _ _ hoa)
  have hq6 := B6 oq _ hoq (((S2.trans (S3.trans S4)).trans S5) _ _ hob.1)
  refine ⟨by show 1 ≤ sizeLine; decide, fun p1 hp1 => ?_⟩
  have T1 := Same.upd (o := .lst [.int 0]) hp1
  refine ⟨_, rfl, _, _, _, _, _, rfl, T1 _ _ ho6, (kcl_Item T).cl, no_Item_box T, itF_box, oq, _, rfl, .inr (.inl (.inl (T1 _ _ hq6))), fun p2 hp2 => ?_⟩
  have T2 := Same.upd (o := .lst (bxV it.box)) hp2
  refine ⟨p1, p2, _, _, rfl, rfl, T2 _ _ upd_same, upd_same, by show 5 ≤ sizeLine; decide, fun p3 hp3 => ?_⟩
  refine newFor_end (k.new (c := 0) (ns := Kvg6.boxValues it.box) rfl (by decide)) S15 B6 hf6 ((T1.trans T2).free hp3) ((T1.trans T2).upd3 hp3) ?_ (forest_here hf6)
  rw [upd_same]
  rfl
def spFBulk (K : PySem.W.Frag) : Sp := fun vs H Q E => ∃ (f a : Addr) (i : Nat) (ns : List Int) (s : Kvg6.Index), vs = [.ref f, .int i, .ref a] ∧ ForestAt K H f s ∧ H a = some (.lst (ns.map V.int)) ∧ ns.length ≤ 300 ∧ OpOut K H f (s.run (.bulkLoad i ns)) Q E
theorem sc_Forest_bulk_load : FnScope ["self", "tree", "values", "found"] ["self", "tree", "values"] (defScope s_Forest_bulk_load) := ⟨rfl, rfl, rfl, by decide +kernel, rfl, by decide +kernel, by decide +kernel⟩
theorem k_Forest_bulk_load (T : Tx K mg) : KnMX P w K mg base "Forest" "bulk_load" 7 ["self", "tree", "values"] (spFBulk K) := by
  have F := T.fn2 51 (c := "Forest") (m := "bulk_load") (q := "Forest.bulk_load") (st := s_Forest_bulk_load) rfl
  have sc := sc_Forest_bulk_load
  obtain ⟨tNO_TREE, gNO_TREE⟩ := T.int 105 (x := "NO_TREE") rfl
  let st : Stmt := s_Forest_bulk_load
  let nn : List Str := ["self", "tree", "values", "found"]
  refine ⟨F.okX sc (fun vs H Q E h => ?_) (fun cdv A outer s H vs Q E hr h => ?_), F.binds fun _ _ _ _ _ _ us hl => match us, hl with | [_, _, _], _ => rfl, (kcl_Forest T).cl, meth_Forest_bulk_load T⟩

  · obtain ⟨f, a, i, ns, s, rfl, _⟩ := h
    rfl
  obtain ⟨f, a, i, ns, s', rfl, hf, ha, h300, k⟩ := h
  refine ⟨_, (pss_cons (ps_expr (kcX (k_need T) hr (pa_cons (pe_cmpR op_lt (pv 1) pe_int (nomark _)) (pa_cons (pe_glob (v := .int (-2)) rfl gNO_TREE ⟨_, rfl⟩) pa_nil)) (passes_call (takes_of rfl rfl rfl rfl) fun _ _ _ _ h => h)))
      (pss_cons (ps_set (i := 3) sc.nd rfl (Or.inl rfl) (kcX (k_items_from T) hr (pa_cons (pv 2) pa_nil) (passes_call (takes_of rfl rfl rfl rfl) fun _ _ _ _ h => h)))
      (pss_cons (ps_expr (kmt (k_Forest_replace_root T) (pv 0) hr (pa_cons (pv 1) (pa_cons (kc (k_bulk_loaded T) hr (pa_cons (pv 3) pa_nil)) pa_nil))))
      (pss_one (ps_ret (pe_lst (pa_cons (pe_callB call_len_seq (by rfl) (T.free 91) PySem.boot_len (pa_cons (pv 3) pa_nil)) pa_nil))))))), ?_⟩
  have hff := hf
  obtain ⟨dx, l, v1, v2, h1, _⟩ := hff
  refine ⟨_, rfl, _, _, rfl, rfl, _, _, rfl, fun c => ?_, fun c => ?_⟩
  rotate_left
  · have c' := of_decide_eq_false c
    exact k.err (s := s') (if_pos (by omega)) (by decide) (Same.refl H)
  have c' : (i : Int) < 2 := of_decide_eq_true c
  have hi : i ≤ 1 := by omega
  have hrun : s'.run (.bulkLoad i ns) = match Kvg6.itemsOf ns.length ns with
      | none => (s', .error (-22))
      | some items => if 48 < items.length then (s', .error (-28)) else if (items.map Item.id).Nodup then (s'.replace i (Kvg6.bulkLoad items), .number items.length) else (s', .error (-17)) := if_neg (by omega)
  rw [hrun] at k
  refine ⟨_, rfl, a, ns, rfl, ha, h300, fun hn => ?_, fun items hit => ⟨fun h48 => ?_, fun h48 hnd => ?_, fun h48 hnd hok q xs H1 hq S1 hx hp => ?_⟩⟩
  · rw [hn] at k
    exact k.err (s := s') rfl (by decide) (Same.refl H)
  · rw [hit] at k
    exact k.err (s := s') (if_pos h48) (by decide) (Same.refl H)
  · rw [hit] at k
    exact k.err (s := s') (by show (if _ then _ else _) = _; rw [if_neg (by omega), if_neg hnd]) (by decide) (Same.refl H)
  rw [hit] at k
  have hf1 := S1.forest hf
  refine ⟨_, rfl, f, dx, _, rfl, S1 _ _ h1, foF_none (by decide +kernel), _, rfl, _, rfl, q, xs, items, rfl, hx, hp, h48, hnd, fun r m H2 S2 hr2 => ?_⟩
  obtain ⟨m2, g2, p2⟩ := BF.bulk_good hok h48 hnd
  have em : m2 = m := hr2.lvl g2.root.ne
  subst em
  refine ⟨f, i, r, s', _, rfl, hi, S2.forest hf1, ⟨m2, hr2, g2⟩, fun H3 B3 hf3 => ?_⟩
  have hqf : q ≠ f := (ne_of_none h1 hq).symm
  have hx3 := B3 q _ hqf (S2 _ _ hx)
  refine ⟨_, rfl, q, xs, rfl, .inl (.inl (.inl hx3)), by show 1 ≤ sizeLine; decide, fun q4 hq4 => ?_⟩
  refine newFor_end (k.new (s := s'.replace i (Kvg6.bulkLoad items)) (c := (items.length : Nat)) (ns := []) (by show (if _ then _ else _) = _; rw [if_neg (by omega), if_pos hnd]; rfl) (by omega)) (S1.trans S2) B3 hf3 hq4 (Same.upd hq4) ?_ (forest_here hf3)
  rw [upd_same, hp.len]
  rfl
def spFReb (K : PySem.W.Frag) : Sp := fun vs H Q E => ∃ (f : Addr) (i : Nat) (s : Kvg6.Index), vs = [.ref f, .int i] ∧ ForestAt K H f s ∧ OpOut K H f (s.run (.rebuild i)) Q E
theorem sub_count {n : Nat} {t : Kvg6.Tree} (h : BF.Bal n t) (hn : n ≤ 16) : (BF.sub n t).length = t.nodes.length := by
  have e := congrArg List.length (BF.sub_nodes n t h)
  rw [List.length_map] at e
  rw [e]
  show _ = (Kvg6.nodesOfTree Kvg6.fuel t).length
  rw [BF.nodes_fuel n t h Kvg6.fuel n hn (Nat.le_refl _)]
theorem sc_Forest_rebuild : FnScope ["self", "tree", "root"] ["self", "tree"] (defScope s_Forest_rebuild) := ⟨rfl, rfl, rfl, by decide +kernel, rfl, by decide +kernel, by decide +kernel⟩
theorem k_Forest_rebuild (T : Tx K mg) : KnMX P w K mg base "Forest" "rebuild" 9 ["self", "tree"] (spFReb K) := by
  have F := T.fn2 52 (c := "Forest") (m := "rebuild") (q := "Forest.rebuild") (st := s_Forest_rebuild) rfl
  have sc := sc_Forest_rebuild
  let st : Stmt := s_Forest_rebuild
  let nn : List Str := ["self", "tree", "root"]
  refine ⟨F.okX sc (fun vs H Q E h => ?_) (fun cdv A outer s H vs Q E hr h => ?_), F.binds fun _ _ _ _ _ _ us hl => match us, hl with | [_, _], _ => rfl, (kcl_Forest T).cl, meth_Forest_rebuild T⟩

  · obtain ⟨f, i, s, rfl, _⟩ := h
    rfl
  obtain ⟨f, i, s', rfl, hf, k⟩ := h
  refine ⟨_, (pss_cons (ps_set (i := 2) sc.nd rfl (Or.inl rfl) (kc (k_bulk_loaded T) hr (pa_cons (kc (k_items_below T) hr (pa_cons (kmtX (k_Forest_root T) (pv 0) hr (pa_cons (pv 1) pa_nil) (passes_call (takes_of rfl rfl rfl rfl) fun _ _ _ _ h => h)) pa_nil)) pa_nil)))
      (pss_cons (ps_expr (kmt (k_Forest_replace_root T) (pv 0) hr (pa_cons (pv 1) (pa_cons (pv 2) pa_nil))))
      (pss_one (ps_ret (pe_lst (pa_cons (pe_callB call_len_seq (by rfl) (T.free 91) PySem.boot_len (pa_cons (kc (k_subtree T) hr (pa_cons (pv 2) pa_nil)) pa_nil)) pa_nil)))))), ?_⟩
  have hff := hf
  obtain ⟨dx, l, v1, v2, h1, _⟩ := hff
  refine ⟨_, rfl, f, dx, _, rfl, h1, foF_none (by decide +kernel), _, rfl, f, i, s', rfl, hf, fun hi v hv => ?_, fun hi => k.err (s := s') (if_pos hi) (by decide) (Same.refl H)⟩
  have hrun : s'.run (.rebuild i) = (s'.replace i (Kvg6.bulkLoad (s'.tree i).items), .number (Kvg6.bulkLoad (s'.tree i).items).nodes.length) := if_neg (by omega)
  rw [hrun] at k
  obtain ⟨n, ht, hg⟩ := hv
  have hlow := hg.low
  rw [hg.items] at k
  refine ⟨n, v, _, H, by omega, rfl, Same.refl H, ht, fun q xs H1 hq S1 hx hp => ?_⟩
  refine ⟨q, xs, _, rfl, hx, Paired.impl (fun _ _ => S1.item) hp, hg.size, hg.nodup, fun r m H2 S2 hr2 => ?_⟩
  obtain ⟨m2, g2, p2⟩ := BF.bulk_good hg.ok hg.size hg.nodup
  have em : m2 = m := hr2.lvl g2.root.ne
  subst em
  have S12 := S1.trans S2
  have hf2 := S12.forest hf
  refine ⟨_, rfl, f, dx, _, rfl, S12 _ _ h1, foF_none (by decide +kernel), _, rfl, _, rfl, f, i, r, s', _, rfl, hi, hf2, ⟨m2, hr2, g2⟩, fun H3 B3 hf3 => ?_⟩
  have hr3 : TreeV K H3 m2 r (Kvg6.bulkLoad (Kvg6.itemsOfTree n (s'.tree i))) := by
    have hS : Same (off H2 f) H3 := fun b o e => by
      have hb : b ≠ f := fun z => by
        rw [z] at e
        have : off H2 f f = none := if_pos rfl
        rw [this] at e
        cases e
      exact B3 b o hb (off_same _ _ e)
    exact hS.tree (tree_off (S12 _ _ h1) hr2)
  have hml := g2.low
  refine ⟨_, rfl, m2, r, _, H3, by omega, by omega, rfl, Same.refl _, hr3, fun q4 ys H4 hq4 S4 hy4 hp4 => ?_⟩
  refine ⟨q4, ys, rfl, .inl (.inl (.inl hy4)), by show 1 ≤ sizeLine; decide, fun q5 hq5 => ?_⟩
  have hS5 := S4.upd3 (o := .lst [.int (ys.length : Nat)]) hq5
  refine newFor_end (k.new (c := ((Kvg6.bulkLoad (Kvg6.itemsOfTree n (s'.tree i))).nodes.length : Nat)) (ns := []) rfl (by omega)) S12 B3 hf3 (S4.free hq5) hS5 ?_ (forest_here hf3)
  rw [upd_same, hp4.len, sub_count g2.root.bal (by omega)]
  rfl
end
end BFW
namespace PySem
theorem Paired.bothP {α β : Type} {R S : α → β → Prop} : ∀ {l : List α} {m : List β}, Paired R l m → Paired S l m → Paired (fun x y => R x y ∧ S x y) l m
  | _, _, .nil, _ => .nil
  | _, _, .cons h t, h' => by
    cases h' with
    | cons a b => exact .cons ⟨h, a⟩ (Paired.bothP t b)
end PySem
namespace BFW
open PySem PySem.Spec PyProof.Rows L2 BFH
open Kvg6 (Box Item)
open BF (BoxOk ItOk)
section
variable {P : Program} {w : World} {K : PySem.W.Frag} {mg : Str → Option Value} {base : Heap}
def spWin (K : PySem.W.Frag) : Sp := fun vs H Q _ => ∃ (n : Nat) (v : V) (t : Kvg6.Tree) (q : Addr) (wd : Box), vs = [v, .ref q] ∧ TreeV K H n v t ∧ BF.GoodAt n t ∧ Bx H q wd ∧
  ∀ r p xs its H', H r = none → H p = none → Same H H' → H' r = some (.tup [.int ((Kvg6.searchIn wd n t).1 : Nat), .ref p]) → H' p = some (.lst xs) → Paired (ItemAt K H') xs its → its.Perm (Kvg6.searchIn wd n t).2 → xs.length ≤ 1000 → Q (.ref r) H'
theorem ent_box {H : Hp} {n : Nat} {ch : List Kvg6.Tree} {xs : List V} (h : Paired (TreeV K H n) xs ch) (h' : Paired (Ent K H) xs (ch.map Kvg6.Tree.box)) : Paired (fun x c => TreeV K H n x c ∧ Ent K H x c.box) xs ch := Paired.bothP h (Paired.ofMapR h')
theorem sc_window_search : FnScope ["root", "window", "nodes", "found", "position", "node", "near", "entry"] ["root", "window"] (defScope s_window_search) := ⟨rfl, rfl, rfl, by decide +kernel, rfl, by decide +kernel, by decide +kernel⟩
theorem k_window_search (T : Tx K mg) : Kn P w K mg base "window_search" 2 ["root", "window"] (spWin K) := by
  have F := T.fn1 59 (x := "window_search") (st := s_window_search) rfl
  have sc := sc_window_search
  let st : Stmt := s_window_search
  let nn : List Str := ["root", "window", "nodes", "found", "position", "node", "near", "entry"]
  refine ⟨F.ok sc (fun vs H Q E h => ?_) (fun cdv A outer s H vs Q E hr h => ?_), F.binds fun _ _ _ _ _ _ us hl => match us, hl with | [_, _], _ => rfl, F.kp, T.glo 46⟩

  · obtain ⟨n, v, t, q, wd, rfl, _⟩ := h
    rfl
  obtain ⟨n, v, t, q, wd, rfl, ht, hg, hq, k⟩ := h
  refine ⟨_, (pss_cons (ps_par (i := 2) (j := 3) rfl sc.nd rfl rfl (by decide) rfl rfl (pa_cons (pe_lst (pa_cons (pv 0) pa_nil)) (pa_cons (pe_lst pa_nil) pa_nil)) (by rfl))
      (pss_cons (ps_set (i := 4) sc.nd rfl (Or.inl rfl) pe_int)
      (pss_cons (ps_while PassesOwn.never (pt_cmpR op_lt (pv 4) (pe_callB call_len_seq (by rfl) (T.free 91) PySem.boot_len (pa_cons (pv 2) pa_nil)) (nomark _)) (pss_cons (ps_set (i := 5) sc.nd rfl (Or.inl rfl) (pe_ix ix_list (pv 2) (pv 4) (fun _ _ => rfl)))
      (pss_cons (ps_setLc (i := 6) (own := [("entry", 7)]) (g := gName 7) rfl sc.nd rfl rfl (sw_true rfl rfl rfl (by decide +kernel)) (pi_list (pe_fld (pv 5) rfl)) (blkOk_by (N := nn) (sc := defScope st) (by decide +kernel)) (fun _ _ _ _ _ => (pg_name (i := 7) sc.nd rfl (Or.inl rfl))) (fun _ _ _ _ _ => (pts_one (pt_val (kc (k_intersect T) hr (pa_cons (pe_fldK (K := K) rfl (pv 7) rfl) (pa_cons (pv 1) pa_nil)))))) (fun _ _ _ _ _ => (pv 7)))
      (pss_cons (ps_if (pt_cmpR op_eq (pe_fld (pv 5) rfl) pe_int (nomark _)) (pss_one (ps_expr (pe_bm PySem.F.plainAttrs_list PySem.F.slot_list_extend PySem.F.type_list_extend mt_extend (pv 3) (pa_cons (pv 6) pa_nil)))) (pss_one (ps_expr (pe_bm PySem.F.plainAttrs_list PySem.F.slot_list_extend PySem.F.type_list_extend mt_extend (pv 2) (pa_cons (pv 6) pa_nil)))))
      (pss_one (ps_set (i := 4) sc.nd rfl (Or.inl rfl) (pe_op op_add (pv 4) pe_int)))))))
      (pss_one (ps_ret (pe_tup (pa_cons (pe_callB call_len_seq (by rfl) (T.free 91) PySem.boot_len (pa_cons (pv 2) pa_nil)) (pa_cons (pv 3) pa_nil)))))))), ?_⟩
  have hN : (Kvg6.searchIn wd n t).1 ≤ 49 := Nat.le_trans (BF.sCnt_root wd hg.root) (by have := hg.size; omega)
  have hbound : ∀ {xs : List BF.LT} {k : Nat} {found : List Item}, BF.Bfs (BF.sCnt wd) (BF.sOut wd) (Kvg6.searchIn wd n t).1 (Kvg6.searchIn wd n t).2 xs k found → xs.length ≤ 49 := fun h => Nat.le_trans (h.len (BF.sCnt_pos wd)) hN
  refine ⟨_, rfl, by show 1 ≤ sizeLine; decide, fun nd hnd => ?_⟩
  have S1 := Same.upd (o := .lst [v]) hnd
  refine ⟨Nat.zero_le _, fun fd hfd => ⟨_, _, rfl, ?_⟩⟩
  have S2 := Same.upd (o := .lst []) hfd
  have n2 := S2 _ _ (upd_same (H := H) (a := nd) (o := .lst [v]))
  have f2 := upd_same (H := upd H nd (.lst [v])) (a := fd) (o := .lst [])
  have hnf : nd ≠ fd := ne_of_none upd_same hfd
  have hf0 : H fd = none := S1.free hfd
  have S12 := S1.trans S2
  generalize upd (upd H nd (.lst [v])) fd (.lst []) = H2 at *
  refine ⟨fun m σ H1 => ∃ (xs fs : List V) (ls : List BF.LT) (its : List Item) (kk : Nat) (o5 o6 : Option V), σ = [some v, some (.ref q), some (.ref nd), some (.ref fd), some (.int kk), o5, o6, none] ∧ m = 49 - kk ∧ Same H H1 ∧ H1 nd = some (.lst xs) ∧ H1 fd = some (.lst fs) ∧ Paired (SubV K H) xs ls ∧ Paired (ItemAt K H) fs its ∧ fs.length ≤ 4 * kk ∧
    BF.Bfs (BF.sCnt wd) (BF.sOut wd) (Kvg6.searchIn wd n t).1 (Kvg6.searchIn wd n t).2 ls kk its, ⟨49, [v], [], [(n, t)], [], 0, none, none, rfl, rfl, S12, n2, f2, .cons ht .nil, .nil, Nat.zero_le _, BF.Bfs.start (cnt := BF.sCnt wd) (out := BF.sOut wd) (n, t)⟩, ?_⟩
  rintro m σ H1 ⟨xs, fs, ls, its, kk, o5, o6, rfl, rfl, S, hxs, hfs, hp, hpi, hfl, hb⟩
  refine ⟨_, rfl, _, rfl, nd, xs, rfl, .inl (.inl (.inl hxs)), _, _, rfl, rfl, _, rfl, ?_⟩
  have hxl := hp.len
  have hle := hb.le
  have h49 := hbound hb
  by_cases c : kk < xs.length
  · rw [decide_eq_true (by omega)]
    obtain ⟨⟨j, t'⟩, hj⟩ : ∃ y, ls[kk]? = some y := ⟨_, List.getElem?_eq_getElem (by omega)⟩
    obtain ⟨x, hx, hxc⟩ := hp.get2 hj
    obtain ⟨p, dx, e, bv, es, rfl, ta⟩ := TreeV.at_ (show TreeV K H j x t' from hxc)
    have h4 := ta.four
    refine iteT ⟨fun σ' H' => ∃ m', m' < 49 - kk ∧ ∃ (xs fs : List V) (ls : List BF.LT) (its : List Item) (kk : Nat) (o5 o6 : Option V), σ' = [some v, some (.ref q), some (.ref nd), some (.ref fd), some (.int kk), o5, o6, none] ∧ m' = 49 - kk ∧ Same H H' ∧ H' nd = some (.lst xs) ∧ H' fd = some (.lst fs) ∧ Paired (SubV K H) xs ls ∧ Paired (ItemAt K H) fs its ∧ fs.length ≤ 4 * kk ∧
      BF.Bfs (BF.sCnt wd) (BF.sOut wd) (Kvg6.searchIn wd n t).1 (Kvg6.searchIn wd n t).2 ls kk its, fun σ' H' h => h, ?_⟩
    refine ⟨_, rfl, _, rfl, nd, xs, _, _, rfl, rfl, .inl (.inl hxs), at_of rfl hx, ?_⟩
    refine ⟨_, rfl, _, _, _, _, _, rfl, S _ _ ta.node, (kcl_Node T).cl, no_Node_entries T, ndF_entries, e, rfl, ⟨_, .inl (.inl (S _ _ ta.list))⟩, ?_⟩
    have hk := ta.kids
    -- an entry's test
    have test : ∀ (b : Box) (x : V) (H3 : Hp) (kf : Bool → Hp → Prop), Ent K H x b → Same H1 H3 → kf (Kvg6.intersects b wd) H3 → (tB (tCall spMeet [] E0 (tCons (tFld K (tVar 7) "box") (tCons (tVar 1) tNil))) : TT) [some v, some (.ref q), some (.ref nd), some (.ref fd), some (.int kk), some (.ref p), o6, some x] H3 kf := by
      intro b x H3 kf hx S3 hk3
      obtain ⟨a1, C1, d1, f1, q1, rfl, h1, c1, n1, l1, b1⟩ := ent_fld T ((S.trans S3).ent hx)
      exact ⟨_, rfl, _, _, _, _, _, rfl, h1, c1, n1, l1, _, rfl, q1, q, b, wd, rfl, b1.1, (S.trans S3) _ _ hq, _, rfl, hk3⟩
    have hkk1 : ((kk : Int) + 1) = ((kk + 1 : Nat) : Int) := by omega
    cases t' with
    | leaf items =>
      obtain ⟨rfl, hk⟩ := hk
      refine lc_li (R0 := ItemAt K H) items (fun it => Kvg6.intersects it.box wd) (fun _ u it => ItemAt K H u it) hk ?_ ?_ ?_ ?_ ?_ ?_ ?_
      · exact fun H2 S3 => .inl (.inl (S3 _ _ (S _ _ ta.list)))
      · exact Nat.lt_of_le_of_lt h4 (by decide)
      · exact fun _ _ _ _ _ h => h
      · exact fun _ => rfl
      · exact fun x z H3 hx _ S3 kf hk => test z.box x H3 kf hx.ent S3 (hk H3 (Same.refl _))
      · exact fun x z H3 D acc hx _ _ S3 S3' hD kf hk => ⟨_, rfl, hk _ _ (Same.refl _) hx⟩
      · intro D H3 ys hD S3 hl hys
        have hyl : ys.length ≤ 4 := by
          rw [hys.len]
          exact Nat.le_trans (List.length_filter_le _ _) (by rw [← hk.len]; exact h4)
        have S03 := S.trans S3
        refine ⟨_, rfl, _, _, _, _, _, rfl, S03 _ _ ta.node, (kcl_Node T).cl, no_Node_level T, ndF_level, rfl, _, rfl, ?_⟩
        rw [decide_eq_true (by rfl)]
        refine iteT ⟨_, rfl, .inl ⟨rfl, _, .inl (.inl (S3 _ _ hfs))⟩, _, rfl, fd, D, fs, ys, rfl, rfl, S3 _ _ hfs, hl, line_small (by omega), _, rfl, _, _, rfl, rfl, ?_⟩
        refine ⟨49 - (kk + 1), by omega, xs, fs ++ ys, ls, its ++ items.filter (fun it => Kvg6.intersects it.box wd), kk + 1, some (.ref p), some (.ref D), ?_, rfl, S03.upd2 hf0, ?_, upd_same, hp, hpi.app hys, by rw [List.length_append]; omega, BF.sStep_leaf hb hj⟩
        · rw [← hkk1]
          rfl
        · rw [upd_ne hnf]
          exact S3 _ _ hxs
    | node ch =>
      obtain ⟨j', rfl, hk⟩ := hk
      refine lc_li (R0 := fun x c => TreeV K H j' x c ∧ Ent K H x c.box) ch (fun c => Kvg6.intersects c.box wd) (fun _ u c => TreeV K H j' u c) (ent_box hk ta.ents) ?_ ?_ ?_ ?_ ?_ ?_ ?_
      · exact fun H2 S3 => .inl (.inl (S3 _ _ (S _ _ ta.list)))
      · exact Nat.lt_of_le_of_lt h4 (by decide)
      · exact fun _ _ _ _ _ h => h
      · exact fun _ => rfl
      · exact fun x z H3 hx _ S3 kf hk => test z.box x H3 kf hx.2 S3 (hk H3 (Same.refl _))
      · exact fun x z H3 D acc hx _ _ S3 S3' hD kf hk => ⟨_, rfl, hk _ _ (Same.refl _) hx.1⟩
      · intro D H3 ys hD S3 hl hys
        have S03 := S.trans S3
        have hb2 := BF.sStep_node hb hj
        have hys2 : Paired (SubV K H) ys ((ch.filter fun (c : Kvg6.Tree) => Kvg6.intersects c.box wd).map fun c => (j', c)) := Paired.mapR hys
        have h492 := hbound hb2
        have hpp := hp.app hys2
        have hppl := hpp.len
        refine ⟨_, rfl, _, _, _, _, _, rfl, S03 _ _ ta.node, (kcl_Node T).cl, no_Node_level T, ndF_level, rfl, _, rfl, ?_⟩
        rw [decide_eq_false (fun z => by injection z with z; omega)]
        refine iteF ⟨_, rfl, .inl ⟨rfl, _, .inl (.inl (S3 _ _ hxs))⟩, _, rfl, nd, D, xs, ys, rfl, rfl, S3 _ _ hxs, hl, line_small (by rw [← List.length_append]; omega), _, rfl, _, _, rfl, rfl, ?_⟩
        refine ⟨49 - (kk + 1), by omega, xs ++ ys, fs, _, its, kk + 1, some (.ref p), some (.ref D), ?_, rfl, S03.upd2 hnd, upd_same, ?_, hpp, hpi, by omega, hb2⟩
        · rw [← hkk1]
          rfl
        · rw [upd_ne hnf.symm]
          exact S3 _ _ hfs
  · rw [decide_eq_false (by omega)]
    obtain ⟨d1, d2⟩ := hb.done (by omega)
    refine iteF ⟨_, rfl, nd, xs, rfl, .inl (.inl (.inl hxs)), _, rfl, by show 2 ≤ sizeLine; decide, fun r hr0 => ?_⟩
    have Sr := Same.upd (o := .tup [.int (xs.length : Nat), .ref fd]) hr0
    refine k r fd fs its _ (S.free hr0) hf0 (S.trans Sr) ?_ (Sr _ _ hfs) (Paired.impl (fun _ _ => (S.trans Sr).item) hpi) d2 (by omega)
    rw [upd_same, hxl, d1]
def SubE (K : PySem.W.Frag) (H : Hp) (v : V) (q : Nat × Kvg6.Tree) : Prop := TreeV K H q.1 v q.2 ∧ Ent K H v q.2.box
def spParts (K : PySem.W.Frag) : Sp := fun vs H Q _ => ∃ (n : Nat) (v : V) (t : Kvg6.Tree) (G : Hp), vs = [v] ∧ Same G H ∧ TreeV K G n v t ∧ Ent K G v t.box ∧
  ∀ a xs H', Same H H' → H' a = some (.lst xs) → Paired (SubE K G) xs (BF.partsL (n, t)) → xs.length ≤ 4 → Q (.ref a) H'
theorem sc_parts_of : FnScope ["node"] ["node"] (defScope s_parts_of) := ⟨rfl, rfl, rfl, by decide +kernel, rfl, by decide +kernel, by decide +kernel⟩
theorem k_parts_of (T : Tx K mg) : Kn P w K mg base "parts_of" 1 ["node"] (spParts K) := by
  have F := T.fn1 65 (x := "parts_of") (st := s_parts_of) rfl
  have sc := sc_parts_of
  let st : Stmt := s_parts_of
  let nn : List Str := ["node"]
  refine ⟨F.ok sc (fun vs H Q E h => ?_) (fun cdv A outer s H vs Q E hr h => ?_), F.binds fun _ _ _ _ _ _ us hl => match us, hl with | [_], _ => rfl, F.kp, T.glo 52⟩

  · obtain ⟨n, v, t, G, rfl, _⟩ := h
    rfl
  obtain ⟨n, v, t, G, rfl, SG, ht, he, k⟩ := h
  refine ⟨_, (pss_one (ps_ret (pe_ifExp (pt_cmpR op_gt (pe_fld (pv 0) rfl) pe_int (nomark _)) (pe_fld (pv 0) rfl) (pe_lst (pa_cons (pv 0) pa_nil))))), ?_⟩
  obtain ⟨p, dx, e, bv, xs, rfl, ta⟩ := ht.at_
  have hk := ta.kids
  refine ⟨_, rfl, _, _, _, _, _, rfl, SG _ _ ta.node, (kcl_Node T).cl, no_Node_level T, ndF_level, _, _, rfl, rfl, _, rfl, ?_⟩
  cases t with
  | leaf items =>
    obtain ⟨rfl, hk⟩ := hk
    rw [decide_eq_false (by omega)]
    exact iteF ⟨_, rfl, by show 1 ≤ sizeLine; decide, fun l hl => k l _ _ (Same.upd hl) upd_same (.cons ⟨ht, he⟩ .nil) (by show 1 ≤ 4; decide)⟩
  | node ch =>
    obtain ⟨m, rfl, hk⟩ := hk
    rw [decide_eq_true (by omega)]
    refine iteT ⟨_, rfl, _, _, _, _, _, rfl, SG _ _ ta.node, (kcl_Node T).cl, no_Node_entries T, ndF_entries, k e xs H (Same.refl H) (SG _ _ ta.list) ?_ ta.four⟩
    exact Paired.mapR (ent_box hk ta.ents)
/-- two entries side by side -/
def PairV {α : Type} (H : Hp) (R : V → α → Prop) (v : V) (z : α × α) : Prop := ∃ q x y, v = .ref q ∧ H q = some (.tup [x, y]) ∧ R x z.1 ∧ R y z.2
theorem _root_.L2.Same.pairV {α : Type} {H H' : Hp} {R : V → α → Prop} {v : V} {z : α × α} (S : Same H H') (h : PairV H R v z) : PairV H' R v z := by
  obtain ⟨q, x, y, e, h, r⟩ := h
  exact ⟨q, x, y, e, S _ _ h, r⟩
def spNear (K : PySem.W.Frag) : Sp := fun vs H Q _ => ∃ (α : Type) (R : V → α → Prop) (box : α → Box) (a b : Addr) (lim : Int) (xs ys : List V) (zs ws : List α), vs = [.ref a, .ref b, .int lim] ∧ H a = some (.lst xs) ∧ H b = some (.lst ys) ∧ Paired R xs zs ∧ Paired R ys ws ∧
  (∀ v z, R v z → Ent K H v (box z)) ∧ xs.length ≤ 100 ∧ ys.length ≤ 100 ∧
  ∀ q us H', H q = none → Same H H' → H' q = some (.lst us) → Paired (PairV H' R) us (BF.nearL (fun p r => decide (Kvg6.squaredDistance p r ≤ lim)) box zs ws) → Q (.ref q) H'
theorem nearL_take {α : Type} {cond : Box → Box → Bool} {box : α → Box} {zs ws : List α} {i : Nat} {z : α} (h : zs[i]? = some z) : BF.nearL cond box (zs.take (i + 1)) ws = BF.nearL cond box (zs.take i) ws ++ (ws.filter fun y => cond (box z) (box y)).map fun y => (z, y) := flat_more h
theorem sc_near_pairs : FnScope ["ones", "others", "limit", "found", "one", "other"] ["ones", "others", "limit"] (defScope s_near_pairs) := ⟨rfl, rfl, rfl, by decide +kernel, rfl, by decide +kernel, by decide +kernel⟩
theorem k_near_pairs (T : Tx K mg) : Kn P w K mg base "near_pairs" 2 ["ones", "others", "limit"] (spNear K) := by
  have F := T.fn1 64 (x := "near_pairs") (st := s_near_pairs) rfl
  have sc := sc_near_pairs
  let st : Stmt := s_near_pairs
  let nn : List Str := ["ones", "others", "limit", "found", "one", "other"]
  refine ⟨F.ok sc (fun vs H Q E h => ?_) (fun cdv A outer s H vs Q E hr h => ?_), F.binds fun _ _ _ _ _ _ us hl => match us, hl with | [_, _, _], _ => rfl, F.kp, T.glo 51⟩

  · obtain ⟨α, R, box, a, b, lim, xs, ys, zs, ws, rfl, _⟩ := h
    rfl
  obtain ⟨α, R, box, a, b, lim, xs, ys, zs, ws, rfl, ha, hb, hpz, hpw, hent, h1, h2, k⟩ := h
  refine ⟨_, (pss_cons (ps_set (i := 3) sc.nd rfl (Or.inl rfl) (pe_lst pa_nil))
      (pss_cons (ps_for PassesOwn.never rfl (pi_list (pv 0)) (pg_name (i := 4) sc.nd rfl (Or.inr rfl)) (pss_one (ps_expr (pe_bm PySem.F.plainAttrs_list PySem.F.slot_list_extend PySem.F.type_list_extend mt_extend (pv 3) (pa_cons (pe_lc (own := [("other", 5)]) (g := gName 5) rfl sc.nd (pi_list (pv 1)) (blkOk_by (N := nn) (sc := defScope st) (by decide +kernel)) (fun _ _ _ _ _ => (pg_name (i := 5) sc.nd rfl (Or.inl rfl))) (fun _ _ _ _ _ => (pts_one (pt_cmpR op_le (kc (k_squared_distance T) hr (pa_cons (pe_fldK (K := K) rfl (pv 4) rfl) (pa_cons (pe_fldK (K := K) rfl (pv 5) rfl) pa_nil))) (pv 2) (nomark _)))) (fun _ _ _ _ _ => (pe_tup (pa_cons (pv 4) (pa_cons (pv 5) pa_nil))))) pa_nil)))))
      (pss_one (ps_ret (pv 3))))), ?_⟩
  refine ⟨Nat.zero_le _, fun f hf => ?_⟩
  have S0 := Same.upd (o := .lst []) hf
  refine ⟨_, rfl, a, rfl, ⟨_, .inl (.inl (S0 _ _ ha))⟩, ?_⟩
  refine for_list (xs := xs) (fun i σ H1 => ∃ us o, σ = [some (.ref a), some (.ref b), some (.int lim), some (.ref f), o, none] ∧ Same H H1 ∧ H1 f = some (.lst us) ∧ us.length ≤ 100 * i ∧ Paired (PairV (off H1 f) R) us (BF.nearL (fun p r => decide (Kvg6.squaredDistance p r ≤ lim)) box (zs.take i) ws)) ?_ ?_ ?_ ?_
  · exact ⟨[], _, rfl, S0, upd_same, Nat.zero_le _, by rw [List.take_zero]; exact .nil⟩
  · rintro i σ H1 _ ⟨us, o, _, S, _⟩
    exact .inl (.inl (S _ _ ha))
  · rintro i x σ H1 hx ⟨us, o, rfl, S, hus, hul, hp⟩
    obtain ⟨z, hz, hxz⟩ := hpz.get hx
    have hil : i < xs.length := (List.getElem?_eq_some_iff.mp hx).1
    refine ⟨_, rfl, .inl ⟨rfl, _, .inl (.inl hus)⟩, _, rfl, b, rfl, ⟨_, .inl (.inl (S _ _ hb))⟩, ?_⟩
    refine lc_li (R0 := R) ws (fun y => decide (Kvg6.squaredDistance (box z) (box y) ≤ lim)) (fun H' u y => PairV (off H' f) R u (z, y)) hpw ?_ ?_ ?_ ?_ ?_ ?_ ?_
    · exact fun H2 S2 => .inl (.inl (S2 _ _ (S _ _ hb)))
    · exact Nat.lt_of_le_of_lt h2 (by decide)
    · exact fun _ _ _ _ S h => (Same.off S).pairV h
    · exact fun _ => rfl
    · intro y y' H3 hy _ S3 kf hk
      have S03 := S.trans S3
      obtain ⟨a1, C1, d1, f1, q1, rfl, g1, c1, n1, l1, b1⟩ := ent_fld T (S03.ent (hent x z hxz))
      obtain ⟨a2, C2, d2, f2, q2, rfl, g2, c2, n2, l2, b2⟩ := ent_fld T (S03.ent (hent y y' hy))
      exact ⟨_, rfl, _, _, _, _, _, rfl, g1, c1, n1, l1, _, rfl, _, _, _, _, _, rfl, g2, c2, n2, l2, q1, q2, box z, box y', rfl, b1, b2, _, rfl, _, _, rfl, rfl, _, rfl, hk _ (Same.refl _)⟩
    · intro y y' H3 D acc hy _ _ S3 S3' hD kf hk
      refine ⟨_, rfl, _, rfl, by show 2 ≤ sizeLine; decide, fun r hr0 => hk _ _ (Same.upd hr0) ⟨r, x, y, rfl, ?_, hxz, hy⟩⟩
      have hrD : r ≠ D := (ne_of_none hD hr0).symm
      have hrf : r ≠ f := (ne_of_none (S3 _ _ hus) hr0).symm
      exact off_at (off_at upd_same hrD) hrf
    · intro D H3 ys' hD S3 hl hys
      have hys1 : Paired (fun u y => PairV (off H3 f) R u (z, y)) ys' (ws.filter fun y => decide (Kvg6.squaredDistance (box z) (box y) ≤ lim)) := Paired.impl (fun _ _ h => (Same.off off_same).pairV h) hys
      have hyl : ys'.length ≤ 100 := by
        rw [hys1.len]
        exact Nat.le_trans (List.length_filter_le _ _) (by rw [← hpw.len]; exact h2)
      refine ⟨f, D, us, ys', rfl, rfl, S3 _ _ hus, hl, line_small (by omega), us ++ ys', _, rfl, (S.trans S3).upd2 hf, upd_same, by rw [List.length_append]; omega, ?_⟩
      rw [nearL_take hz, off_upd]
      exact Paired.app (Paired.impl (fun _ _ h => (Same.off S3).pairV h) hp) (Paired.mapR hys1)
  · rintro σ H1 ⟨us, o, rfl, S, hus, hul, hp⟩
    rw [hpz.len, List.take_length] at hp
    exact ⟨_, rfl, k f us H1 hf S hus (Paired.impl (fun _ _ h => off_same.pairV h) hp)⟩
end
end BFW
namespace BFW
open PySem PySem.Spec PyProof.Rows L2 BFH
open Kvg6 (Box Item)
open BF (BoxOk ItOk)
/-! ### comprehensions with any target -/
theorem lc_genG {J : It} {n : Nat} {G : Hp → Prop} {f : Nat → V} {H0 : Hp} {D : Addr} {g : TG} {tt : TT} {te : TE} {vs : List Nat} {σ : L2.St} {Qd : Hp → Prop} {α : Type} (zs : List α) (p : α → Bool) (R : Hp → V → α → Prop) (Post : L2.St → α → Prop)
    (w : Walk J n G (fun i H x H' => H' = H ∧ x = f i)) (hn : zs.length = n) (hz : n < sizeLine) (hD : H0 D = none) (hG : ∀ H, Same H0 H → G H)
    (mono : ∀ H H' v z, Same H H' → R H v z → R H' v z)
    (tgt : ∀ i z H, i < n → zs[i]? = some z → Same H0 H → ∀ k : L2.St → Hp → Prop, (∀ σ2, Post σ2 z → wipe σ2 vs = wipe σ vs → k σ2 H) → g (f i) (wipe σ vs) H k)
    (test : ∀ z H σ2, z ∈ zs → Post σ2 z → Same H0 H → ∀ k : Bool → Hp → Prop, (∀ H', Same H H' → k (p z) H') → tt σ2 H k)
    (elt : ∀ z H σ2 acc, z ∈ zs → Post σ2 z → p z = true → Same H0 H → Same H0 (off H D) → H D = some (.lst acc) → ∀ k : VK, (∀ y H', Same H H' → R (off H' D) y z → k y H') → te σ2 H k)
    (fin : ∀ H' ys, Same H0 H' → H' D = some (.lst ys) → Paired (R (off H' D)) ys (zs.filter p) → Qd H') :
    ∃ W : Nat → Nat → Hp → Prop, (∃ m, W 0 m (upd H0 D (.lst []))) ∧ ∀ i m H, W i m H →
      (J.stop i H ∧ Qd H) ∨ (J.go i H ∧ ∃ Nx : Hp → Prop, (∀ H', Nx H' → ∃ m', m' < m ∧ W (i + 1) m' H') ∧ ∀ x H', J.yld i H x H' → g x (wipe σ vs) H' fun σ2 H2 => wipe σ2 vs = wipe σ vs ∧ tt σ2 H2 fun b H3 =>
        if b = true then te σ2 H3 fun y H4 => ∃ acc, H4 D = some (.lst acc) ∧ acc.length < sizeLine ∧ Nx (upd H4 D (.lst (acc ++ [y]))) else Nx H3) := by
  refine lc_it w (fun i H => Same H0 H ∧ ∃ acc, H D = some (.lst acc) ∧ Paired (R (off H D)) acc ((zs.take i).filter p)) ?_ ?_ ?_ ?_
  · exact ⟨Same.upd hD, [], upd_same, by rw [List.take_zero]; exact .nil⟩
  · exact fun i H _ h => hG H h.1
  · rintro i x H H1 hi ⟨S, acc, hacc, hp⟩ ⟨rfl, rfl⟩
    obtain ⟨z, hz1⟩ : ∃ z, zs[i]? = some z := ⟨zs[i]'(by omega), by simp [hn, hi]⟩
    have hzm := List.mem_of_getElem? hz1
    have htk : zs.take (i + 1) = zs.take i ++ [z] := by
      rw [List.take_add_one, hz1]
      rfl
    have hle : acc.length < sizeLine := by
      have e1 := hp.len
      have e2 : ((zs.take i).filter p).length ≤ i := Nat.le_trans (List.length_filter_le _ _) (List.length_take_le _ _)
      omega
    refine tgt i z _ hi hz1 S _ fun σ2 hσ hw => ⟨hw, test z _ σ2 hzm hσ S _ fun H2 S2 => ?_⟩
    cases hpz : p z with
    | false =>
      refine iteF ⟨S.trans S2, acc, S2 _ _ hacc, ?_⟩
      rw [htk, List.filter_append, show [z].filter p = [] by simp [hpz], List.append_nil]
      exact Paired.impl (fun _ _ h => mono _ _ _ _ (Same.off S2) h) hp
    | true =>
      refine iteT (elt z H2 σ2 acc hzm hσ hpz (S.trans S2) ((S.trans S2).off0 hD) (S2 _ _ hacc) _ fun y H3 S3 hR => ?_)
      refine ⟨acc, S3 _ _ (S2 _ _ hacc), hle, ((S.trans S2).trans S3).upd2 hD, acc ++ [y], upd_same, ?_⟩
      rw [off_upd, htk, List.filter_append, show [z].filter p = [z] by simp [hpz]]
      exact Paired.app (Paired.impl (fun _ _ h => mono _ _ _ _ (Same.off (S2.trans S3)) h) hp) (Paired.one hR)
  · rintro H ⟨S, acc, hacc, hp⟩
    rw [← hn, List.take_length] at hp
    exact fin H acc S hacc hp
section
variable {P : Program} {w : World} {K : PySem.W.Frag} {mg : Str → Option Value} {base : Heap}
/-- over a list of pairs, the names in the slots i and j -/
theorem lc_pairs {a : Addr} {xs : List V} {H0 : Hp} {i j : Nat} {tt : TT} {te : TE} {vs : List Nat} {σ : L2.St} {Qd : Addr → Hp → Prop} {α : Type} {S0 : V → α → Prop} (zs : List (α × α)) (p : α × α → Bool) (R : Hp → V → α × α → Prop)
    (hx : Paired (PairV H0 S0) xs zs) (hs : ∀ H, Same H0 H → SqL K H a xs) (hz : xs.length < sizeLine)
    (mono : ∀ H H' v z, Same H H' → R H v z → R H' v z)
    (hw : ∀ x y, wipe (((wipe σ vs).set i (some x)).set j (some y)) vs = wipe σ vs)
    (test : ∀ x y z H, S0 x z.1 → S0 y z.2 → z ∈ zs → Same H0 H → ∀ k : Bool → Hp → Prop, (∀ H', Same H H' → k (p z) H') → tt (((wipe σ vs).set i (some x)).set j (some y)) H k)
    (elt : ∀ x y z H D acc, S0 x z.1 → S0 y z.2 → z ∈ zs → p z = true → Same H0 H → Same H0 (off H D) → H D = some (.lst acc) → ∀ k : VK, (∀ u H', Same H H' → R (off H' D) u z → k u H') → te (((wipe σ vs).set i (some x)).set j (some y)) H k)
    (fin : ∀ D H' ys, H0 D = none → Same H0 H' → H' D = some (.lst ys) → Paired (R (off H' D)) ys (zs.filter p) → Qd D H') :
    ∀ D, H0 D = none → ∃ W : Nat → Nat → Hp → Prop, (∃ m, W 0 m (upd H0 D (.lst []))) ∧ ∀ i' m H, W i' m H →
      ((Itl K a).stop i' H ∧ Qd D H) ∨ ((Itl K a).go i' H ∧ ∃ Nx : Hp → Prop, (∀ H', Nx H' → ∃ m', m' < m ∧ W (i' + 1) m' H') ∧ ∀ x H', (Itl K a).yld i' H x H' → gTup K 2 (gCons (gName i) (gCons (gName j) gNil)) x (wipe σ vs) H' fun σ2 H2 => wipe σ2 vs = wipe σ vs ∧ tt σ2 H2 fun b H3 =>
        if b = true then te σ2 H3 fun y H4 => ∃ acc, H4 D = some (.lst acc) ∧ acc.length < sizeLine ∧ Nx (upd H4 D (.lst (acc ++ [y]))) else Nx H3) := by
  intro D hD
  have rel : ∀ i z, zs[i]? = some z → PairV H0 S0 (xs.getD i .non) z := fun i z hz1 => by
    obtain ⟨x, e, r⟩ := hx.get2 hz1
    rw [List.getD_eq_getElem?_getD, e]
    exact r
  refine lc_genG (f := fun i => xs.getD i .non) zs p R (fun σ2 z => ∃ x y, σ2 = ((wipe σ vs).set i (some x)).set j (some y) ∧ S0 x z.1 ∧ S0 y z.2) walk_listF hx.len.symm hz hD hs mono ?_ ?_ ?_ (fun H' ys => fin D H' ys hD)
  · intro i' z H hi hz1 S k hk
    obtain ⟨q, x, y, e, hq, r1, r2⟩ := rel i' z hz1
    show gTup K 2 _ (xs.getD i' .non) _ _ _
    rw [e]
    exact ⟨q, [x, y], rfl, .inl (.inl (S _ _ hq)), rfl, x, [y], rfl, y, [], rfl, rfl, hk _ ⟨x, y, rfl, r1, r2⟩ (hw x y)⟩
  · rintro z H σ2 hz1 ⟨x, y, rfl, r1, r2⟩ S k hk
    exact test x y z H r1 r2 hz1 S k hk
  · rintro z H σ2 acc hz1 ⟨x, y, rfl, r1, r2⟩ hp S S' ha k hk
    exact elt x y z H D acc r1 r2 hz1 hp S S' ha k hk
/-! ### joins -/
/-- a tuple of two numbers -/
def PairI (H : Hp) (v : V) (z : Nat × Nat) : Prop := ∃ q, v = .ref q ∧ H q = some (.tup [.int (z.1 : Int), .int (z.2 : Int)])
theorem _root_.L2.Same.pairI {H H' : Hp} {v : V} {z : Nat × Nat} (S : Same H H') (h : PairI H v z) : PairI H' v z := by
  obtain ⟨q, e, h⟩ := h
  exact ⟨q, e, S _ _ h⟩
/-- what a join visits, and its sorted pairs -/
def joinRes (lim : Int) (n : Nat) (a : Kvg6.Tree) (m : Nat) (b : Kvg6.Tree) : Nat × List (Nat × Nat) :=
  if a.items.isEmpty || b.items.isEmpty then (0, []) else if BF.within lim a.box b.box = true then (BF.jCnt (BF.within lim) ((n, a), (m, b)), Kvg6.sortPairs (BF.jOut (BF.within lim) ((n, a), (m, b)))) else (0, [])
theorem ents_empty {H : Hp} {n : Nat} {t : Kvg6.Tree} {p dx e : Addr} {bv : V} {xs : List V} (ta : TreeAt K H n t p dx e bv xs) (g : BF.GoodAt n t) : xs.isEmpty = t.items.isEmpty := by
  rw [g.items]
  have hk := ta.kids
  cases t with
  | leaf items =>
    obtain ⟨rfl, hk⟩ := hk
    show xs.isEmpty = items.isEmpty
    cases hk <;> rfl
  | node ch =>
    obtain ⟨m, rfl, hk⟩ := hk
    have h2 := g.root.1.1
    have hl := hk.len
    have hf := g.root.2
    cases ch with
    | nil => exact absurd h2 (by simp)
    | cons c r =>
      have h1 := (hf c List.mem_cons_self).pos
      have e1 : (Kvg6.itemsOfTree (m + 1) (.node (c :: r))).isEmpty = false := by
        show (Kvg6.itemsOfTree m c ++ r.flatMap _).isEmpty = false
        cases e : Kvg6.itemsOfTree m c with
        | nil => rw [e] at h1; simp at h1
        | cons _ _ => rfl
      rw [e1]
      cases xs with
      | nil => simp at hl
      | cons _ _ => rfl
theorem sortPairs_srtd {l m : List (Nat × Nat)} (p : m.Perm l) (h : m.Pairwise fun x y => BF.klt (BF.pKey y) (BF.pKey x) = false) : Kvg6.sortPairs l = m := by
  rw [BF.sortPairs_eq]
  refine BF.sortK_inj p h ?_
  rintro ⟨a1, a2⟩ ⟨b1, b2⟩ e
  simp only [BF.pKey, List.cons.injEq, Int.natCast_inj, and_true] at e
  rw [e.1, e.2]
theorem tAnd_of {t u : TT} {σ : L2.St} {H : Hp} {Q : Bool → Hp → Prop} {b1 b2 : Bool} (h1 : ∀ k : Bool → Hp → Prop, k b1 H → t σ H k) (h2 : ∀ k : Bool → Hp → Prop, k b2 H → u σ H k) (hq : Q (b1 && b2) H) : tAnd t u σ H Q := by
  refine h1 _ ?_
  cases b1 with
  | false => exact iteF hq
  | true => exact iteT (h2 _ hq)
theorem tOr_of {t u : TT} {σ : L2.St} {H : Hp} {Q : Bool → Hp → Prop} {b1 b2 : Bool} (h1 : ∀ k : Bool → Hp → Prop, (∀ H1, Same H H1 → k b1 H1) → t σ H k) (h2 : ∀ H1, Same H H1 → ∀ k : Bool → Hp → Prop, (∀ H2, Same H1 H2 → k b2 H2) → u σ H1 k) (hq : ∀ H1, Same H H1 → Q (b1 || b2) H1) : tOr t u σ H Q := by
  refine h1 _ fun H1 S1 => ?_
  cases b1 with
  | true => exact iteT (hq H1 S1)
  | false => exact iteF (h2 H1 S1 _ fun H2 S2 => hq H2 (S1.trans S2))
theorem PairV.updL {α : Type} {H : Hp} {R : V → α → Prop} {v : V} {z : α × α} {a : Addr} {l l' : List V} (h : PairV H R v z) (ha : H a = some (.lst l)) : PairV (upd H a (.lst l')) R v z := by
  obtain ⟨q, x, y, e, hq, r⟩ := h
  refine ⟨q, x, y, e, ?_, r⟩
  rw [upd_ne (fun z => by subst z; rw [ha] at hq; cases hq)]
  exact hq
theorem leaf_lvl {H : Hp} {n : Nat} {t : Kvg6.Tree} {p dx e : Addr} {bv : V} {xs : List V} (ta : TreeAt K H n t p dx e bv xs) : decide (((n : Int) + 1) = 1) = BF.isLeaf t := by
  have hk := ta.kids
  cases t with
  | leaf items =>
    obtain ⟨rfl, hk⟩ := hk
    rfl
  | node ch =>
    obtain ⟨m, rfl, hk⟩ := hk
    exact decide_eq_false (by omega)
theorem paired_fun {α β : Type} {R : α → β → Prop} {f : α → β} : ∀ {l : List α} {m : List β}, Paired R l m → (∀ a b, R a b → f a = b) → m = l.map f
  | _, _, .nil, _ => rfl
  | _, _, .cons h t, hf => by rw [List.map_cons, hf _ _ h, ← paired_fun t hf]
theorem paired_of {α β : Type} {R : α → β → Prop} {f : α → β} : ∀ {l : List α}, (∀ v ∈ l, R v (f v)) → Paired R l (l.map f)
  | [], _ => .nil
  | a :: l, h => .cons (h a List.mem_cons_self) (paired_of fun v hv => h v (List.mem_cons_of_mem _ hv))
theorem paired_mem {α β : Type} {R : α → β → Prop} {l : List α} {m : List β} (h : Paired R l m) {x : α} (hx : x ∈ l) : ∃ y ∈ m, R x y := by
  obtain ⟨i, hi⟩ := List.getElem?_of_mem hx
  obtain ⟨y, hy, r⟩ := h.get hi
  exact ⟨y, List.mem_of_getElem? hy, r⟩
/-- the numbers of a tuple -/
def pairOf (H : Hp) : V → Int × Int
  | .ref q => match H q with
    | some (.tup [.int i, .int j]) => (i, j)
    | _ => (0, 0)
  | _ => (0, 0)
theorem pairOf_eq {H : Hp} {v : V} {z : Nat × Nat} (h : PairI H v z) : pairOf H v = ((z.1 : Int), (z.2 : Int)) := by
  obtain ⟨q, rfl, h⟩ := h
  show (match H q with
    | some (.tup [.int i, .int j]) => (i, j)
    | _ => (0, 0)) = _
  rw [h]
theorem sorted_pairs {H : Hp} {ys zs : List V} {fs tot : List (Nat × Nat)} (h : Paired (PairI H) ys fs) (hp : fs.Perm tot) (hs : SrtO.Srtd (ltP (pairOf H)) zs) (ht : SrtO.Stb (ltP (pairOf H)) zs ys) : Paired (PairI H) zs (Kvg6.sortPairs tot) := by
  let f : V → Nat × Nat := fun v => ((pairOf H v).1.toNat, (pairOf H v).2.toNat)
  have hf : ∀ v z, PairI H v z → f v = z := fun v z h => by
    show ((pairOf H v).1.toNat, (pairOf H v).2.toNat) = z
    rw [pairOf_eq h]
    rfl
  have e := paired_fun h hf
  have hz : ∀ v ∈ zs, PairI H v (f v) := fun v hv => by
    obtain ⟨z, _, r⟩ := paired_mem h (ht.perm.mem_iff.mp hv)
    rw [hf v z r]
    exact r
  have hp2 : (zs.map f).Perm tot := ((ht.perm.map f).trans (by rw [← e])).trans hp
  rw [sortPairs_srtd hp2 ?_]
  · exact paired_of hz
  · refine List.pairwise_map.mpr (hs.imp_of_mem fun {x y} hx hy hxy => ?_)
    have e1 := pairOf_eq (hz x hx)
    have e2 := pairOf_eq (hz y hy)
    have hxy := SrtO.lexB_no.mp hxy
    rw [e1, e2] at hxy
    dsimp only at hxy
    rw [Bool.eq_false_iff]
    intro c
    have c := (BF.klt_nat2 _ _ _ _).mp c
    omega
def spJoinS (K : PySem.W.Frag) : Sp := fun vs H Q _ => ∃ (n m : Nat) (u v : V) (a b : Kvg6.Tree) (lim : Int), vs = [u, v, .int lim] ∧ TreeV K H n u a ∧ TreeV K H m v b ∧ BF.GoodAt n a ∧ BF.GoodAt m b ∧
  ∀ r p xs H', H r = none → H p = none → Same H H' → H' r = some (.tup [.int ((joinRes lim n a m b).1 : Nat), .ref p]) → H' p = some (.lst xs) → Paired (PairI H') xs (joinRes lim n a m b).2 → (joinRes lim n a m b).2.length ≤ 2304 → Q (.ref r) H'
theorem sc_join_search : FnScope ["one", "other", "limit", "pairs", "found", "position", "first", "second"] ["one", "other", "limit"] (defScope s_join_search) := ⟨rfl, rfl, rfl, by decide +kernel, rfl, by decide +kernel, by decide +kernel⟩
theorem k_join_search (T : Tx K mg) : Kn P w K mg base "join_search" 3 ["one", "other", "limit"] (spJoinS K) := by
  have F := T.fn1 66 (x := "join_search") (st := s_join_search) rfl
  have sc := sc_join_search
  let st : Stmt := s_join_search
  let nn : List Str := ["one", "other", "limit", "pairs", "found", "position", "first", "second"]
  refine ⟨F.ok sc (fun vs H Q E h => ?_) (fun cdv A outer s H vs Q E hr h => ?_), F.binds fun _ _ _ _ _ _ us hl => match us, hl with | [_, _, _], _ => rfl, F.kp, T.glo 53⟩

  · obtain ⟨n, m, u, v, a, b, lim, rfl, _⟩ := h
    rfl
  obtain ⟨n, m, u, v, a, b, lim, rfl, ha, hb, ga, gb, k⟩ := h
  refine ⟨_, (pss_cons (ps_if (PW.pt (pw_or (pt_cmpR (op_eqNil hr.units0) (pe_fld (pv 0) rfl) (pe_lst pa_nil) (nomark _)) (pw_or1 (pt_cmpR (op_eqNil hr.units0) (pe_fld (pv 1) rfl) (pe_lst pa_nil) (nomark _))))) (pss_one (ps_ret (pe_tup (pa_cons pe_int (pa_cons (pe_lst pa_nil) pa_nil))))) pss_nil)
      (pss_cons (ps_par (i := 3) (j := 4) rfl sc.nd rfl rfl (by decide) rfl rfl (pa_cons (kc (k_near_pairs T) hr (pa_cons (pe_lst (pa_cons (pv 0) pa_nil)) (pa_cons (pe_lst (pa_cons (pv 1) pa_nil)) (pa_cons (pv 2) pa_nil)))) (pa_cons (pe_lst pa_nil) pa_nil)) (by rfl))
      (pss_cons (ps_set (i := 5) sc.nd rfl (Or.inl rfl) pe_int)
      (pss_cons (ps_while PassesOwn.never (pt_cmpR op_lt (pv 5) (pe_callB call_len_seq (by rfl) (T.free 91) PySem.boot_len (pa_cons (pv 3) pa_nil)) (nomark _)) (pss_cons (ps_asg (pe_ix ix_list (pv 3) (pv 5) (fun _ _ => rfl)) (pg_tup rfl (pgs_cons (pg_name (i := 6) sc.nd rfl (Or.inl rfl)) (pgs_cons (pg_name (i := 7) sc.nd rfl (Or.inl rfl)) pgs_nil))))
      (pss_cons (ps_if (PW.pt (pw_and (pt_cmpR op_eq (pe_fld (pv 6) rfl) pe_int (nomark _)) (pw_and1 (pt_cmpR op_eq (pe_fld (pv 7) rfl) pe_int (nomark _))))) (pss_one (ps_expr (pe_bm PySem.F.plainAttrs_list PySem.F.slot_list_extend PySem.F.type_list_extend mt_extend (pv 4) (pa_cons (kc (k_near_pairs T) hr (pa_cons (pe_fld (pv 6) rfl) (pa_cons (pe_fld (pv 7) rfl) (pa_cons (pv 2) pa_nil)))) pa_nil)))) (pss_one (ps_expr (pe_bm PySem.F.plainAttrs_list PySem.F.slot_list_extend PySem.F.type_list_extend mt_extend (pv 3) (pa_cons (kc (k_near_pairs T) hr (pa_cons (kc (k_parts_of T) hr (pa_cons (pv 6) pa_nil)) (pa_cons (kc (k_parts_of T) hr (pa_cons (pv 7) pa_nil)) (pa_cons (pv 2) pa_nil)))) pa_nil)))))
      (pss_one (ps_set (i := 5) sc.nd rfl (Or.inl rfl) (pe_op op_add (pv 5) pe_int))))))
      (pss_one (ps_ret (pe_tup (pa_cons (pe_callB call_len_seq (by rfl) (T.free 91) PySem.boot_len (pa_cons (pv 3) pa_nil)) (pa_cons (pe_callB cr_sortedPO (by rfl) (T.free 96) boot_sorted (pa_cons (pe_lc (own := [("first", 6), ("second", 7)]) (g := gTup K 2 (gCons (gName 6) (gCons (gName 7) (gNil)))) (tt := tYes) rfl sc.nd (pi_list (pv 4)) (blkOk_by (N := nn) (sc := defScope st) (by decide +kernel)) (fun _ _ _ _ _ => (pg_tup rfl (pgs_cons (pg_name (i := 6) sc.nd rfl (Or.inl rfl)) (pgs_cons (pg_name (i := 7) sc.nd rfl (Or.inl rfl)) pgs_nil)))) (fun _ _ _ _ _ => pts_nil) (fun _ _ _ _ _ => (pe_tup (pa_cons (pe_fldK (K := K) rfl (pv 6) rfl) (pa_cons (pe_fldK (K := K) rfl (pv 7) rfl) pa_nil))))) pa_nil)) pa_nil))))))))), ?_⟩
  obtain ⟨pa, dxa, ea, bva, xsa, rfl, ta⟩ := ha.at_
  obtain ⟨pb, dxb, eb, bvb, xsb, rfl, tb⟩ := hb.at_
  have e1 := ents_empty ta ga
  have e2 := ents_empty tb gb
  have h49 : (joinRes lim n a m b).2.length ≤ 2304 := by
    unfold joinRes
    have h1 := BF.jOut_le (cond := BF.within lim) (n + m) ((n, a), (m, b)) rfl ga.root.bal gb.root.bal
    have h2 := Nat.mul_le_mul ga.size gb.size
    by_cases c : (a.items.isEmpty || b.items.isEmpty) = true
    · rw [if_pos c]; simp
    · rw [if_neg c]
      by_cases c : BF.within lim a.box b.box = true
      · rw [if_pos c]
        rw [BF.sortPairs_eq, (BF.sortK_perm _).length_eq]
        exact Nat.le_trans h1 h2
      · rw [if_neg c]; simp
  show tOr _ _ _ _ _
  refine tOr_of (b1 := a.items.isEmpty) (b2 := b.items.isEmpty) ?_ ?_ ?_
  · refine fun k hk => ⟨_, rfl, _, _, _, _, _, rfl, ta.node, (kcl_Node T).cl, no_Node_entries T, ndF_entries, Nat.zero_le _, fun p hp => ⟨ea, p, xsa, rfl, rfl, .inl (.inl (Same.upd hp _ _ ta.list)), upd_same, _, rfl, ?_⟩⟩
    rw [e1]
    exact hk _ (Same.upd hp)
  · refine fun H1 S1 k hk => ⟨_, rfl, _, _, _, _, _, rfl, S1 _ _ tb.node, (kcl_Node T).cl, no_Node_entries T, ndF_entries, Nat.zero_le _, fun p hp => ⟨eb, p, xsb, rfl, rfl, .inl (.inl (Same.upd hp _ _ (S1 _ _ tb.list))), upd_same, _, rfl, ?_⟩⟩
    rw [e2]
    exact hk _ (Same.upd hp)
  intro H1 S1
  by_cases c0 : (a.items.isEmpty || b.items.isEmpty) = true
  · rw [c0]
    have ej : joinRes lim n a m b = (0, []) := by
      unfold joinRes
      rw [if_pos c0]
    refine iteT ⟨Nat.zero_le _, fun p hp => ⟨by show 2 ≤ sizeLine; decide, fun r hr0 => ?_⟩⟩
    have S2 := Same.upd (o := .lst []) hp
    have S3 := Same.upd (o := .tup [.int 0, .ref p]) hr0
    rw [ej] at k
    exact k r p [] _ ((S1.trans S2).free hr0) (S1.free hp) ((S1.trans S2).trans S3) upd_same (S3 _ _ upd_same) .nil (Nat.zero_le _)
  rw [show (a.items.isEmpty || b.items.isEmpty) = false by simpa using c0]
  refine iteF ?_
  obtain ⟨N, tot, hN, hNb, htb, hb0⟩ : ∃ (N : Nat) (tot : List (Nat × Nat)), joinRes lim n a m b = (N, Kvg6.sortPairs tot) ∧ N ≤ 131072 ∧ tot.length ≤ 2304 ∧ BF.Bfs (BF.jCnt (BF.within lim)) (BF.jOut (BF.within lim)) N tot (BF.nearL (BF.within lim) BF.ltBox [(n, a)] [(m, b)]) 0 [] := by
    unfold joinRes
    rw [if_neg c0]
    by_cases c : BF.within lim a.box b.box = true
    · refine ⟨BF.jCnt (BF.within lim) ((n, a), (m, b)), BF.jOut (BF.within lim) ((n, a), (m, b)), by rw [if_pos c], ?_, ?_, ?_⟩
      · have h1 := BF.jCnt_le (cond := BF.within lim) (n + m) ((n, a), (m, b)) rfl ga.root.thin gb.root.thin
        have h2 := Nat.pow_le_pow_right (n := 4) (by omega) (show n + m ≤ 8 by have := ga.low; have := gb.low; omega)
        have h3 : 4 ^ 8 = 65536 := by decide
        omega
      · exact Nat.le_trans (BF.jOut_le (cond := BF.within lim) (n + m) ((n, a), (m, b)) rfl ga.root.bal gb.root.bal) (Nat.mul_le_mul ga.size gb.size)
      · have e : BF.nearL (BF.within lim) BF.ltBox [(n, a)] [(m, b)] = [((n, a), (m, b))] := by
          show (List.map _ (List.filter _ [(m, b)])) ++ [] = _
          rw [List.filter_cons, if_pos c]
          rfl
        rw [e]
        exact BF.Bfs.start (cnt := BF.jCnt (BF.within lim)) (out := BF.jOut (BF.within lim)) _
    · refine ⟨0, [], by rw [if_neg c]; rfl, Nat.zero_le _, Nat.zero_le _, ?_⟩
      have e : BF.nearL (BF.within lim) BF.ltBox [(n, a)] [(m, b)] = [] := by
        show (List.map _ (List.filter _ [(m, b)])) ++ [] = _
        rw [List.filter_cons, if_neg c]
        rfl
      rw [e]
      exact ⟨by simp, by simp, by simp⟩
  have ha1 : TreeV K H1 n (.ref pa) a := S1.tree ha
  have hb1 : TreeV K H1 m (.ref pb) b := S1.tree hb
  have hent : ∀ v z, SubE K H v z → Ent K H v (BF.ltBox z) := fun v z h => h.2
  have c1 : a.items.isEmpty = false := by cases q : a.items.isEmpty with
    | false => rfl
    | true => rw [q] at c0; exact absurd rfl c0
  have c2 : b.items.isEmpty = false := by cases q : b.items.isEmpty with
    | false => rfl
    | true => rw [q] at c0; exact absurd (by cases a.items.isEmpty <;> rfl) c0
  have ea0 : SubE K H (.ref pa) (n, a) := ⟨ha, ta.ent (by have := ga.low; omega) fun z => by rw [z, c1] at e1; cases e1⟩
  have eb0 : SubE K H (.ref pb) (m, b) := ⟨hb, tb.ent (by have := gb.low; omega) fun z => by rw [z, c2] at e2; cases e2⟩
  refine ⟨_, rfl, by show 1 ≤ sizeLine; decide, fun l1 hl1 => ⟨_, rfl, by show 1 ≤ sizeLine; decide, fun l2 hl2 => ⟨_, rfl, ?_⟩⟩⟩
  have T1 := Same.upd (o := .lst [.ref pa]) hl1
  have T2 := Same.upd (o := .lst [.ref pb]) hl2
  have i1 := T2 _ _ (upd_same (H := H1) (a := l1) (o := .lst [.ref pa]))
  have i2 := upd_same (H := upd H1 l1 (.lst [.ref pa])) (a := l2) (o := .lst [.ref pb])
  have T12 := (S1.trans T1).trans T2
  generalize upd (upd H1 l1 (.lst [.ref pa])) l2 (.lst [.ref pb]) = H2 at *
  refine ⟨Nat × Kvg6.Tree, SubE K H, BF.ltBox, l1, l2, lim, _, _, [(n, a)], [(m, b)], rfl, i1, i2, .one ea0, .one eb0, fun v z h => T12.ent (hent v z h), by show 1 ≤ 100; decide, by show 1 ≤ 100; decide, fun nd us H3 hnd S3 hus hpu => ?_⟩
  refine ⟨Nat.zero_le _, fun fd hfd => ⟨_, _, rfl, ?_⟩⟩
  have S4 := Same.upd (o := .lst []) hfd
  have f4 := upd_same (H := H3) (a := fd) (o := .lst [])
  have n4 := S4 _ _ hus
  have hnf : nd ≠ fd := ne_of_none hus hfd
  have ST := (T12.trans S3).trans S4
  have hpu4 := Paired.impl (fun _ _ h => S4.pairV h) hpu
  have hnd0 : H nd = none := T12.free hnd
  have hfd0 : H fd = none := (T12.trans S3).free hfd
  generalize upd H3 fd (.lst []) = H4 at *
  have hbound : ∀ {xs : List BF.JP} {k : Nat} {found : List (Nat × Nat)}, BF.Bfs (BF.jCnt (BF.within lim)) (BF.jOut (BF.within lim)) N tot xs k found → xs.length ≤ 131072 := fun h => Nat.le_trans (h.len (BF.jCnt_pos (BF.within lim))) hNb
  let ids : Item × Item → Nat × Nat := fun q => (q.1.id, q.2.id)
  refine ⟨fun mm σ H1 => ∃ (xs fs : List V) (ls : List BF.JP) (its : List (Item × Item)) (kk : Nat) (o6 o7 : Option V), σ = [some (.ref pa), some (.ref pb), some (.int lim), some (.ref nd), some (.ref fd), some (.int kk), o6, o7] ∧ mm = N - kk ∧ Same H H1 ∧ H1 nd = some (.lst xs) ∧ H1 fd = some (.lst fs) ∧ Paired (PairV H1 (SubE K H)) xs ls ∧ Paired (PairV H1 (ItemAt K H)) fs its ∧
    BF.Bfs (BF.jCnt (BF.within lim)) (BF.jOut (BF.within lim)) N tot ls kk (its.map ids), ⟨N, us, [], _, [], 0, none, none, rfl, rfl, ST, n4, f4, hpu4, .nil, hb0⟩, ?_⟩
  rintro mm σ H5 ⟨xs, fs, ls, its, kk, o6, o7, rfl, rfl, S, hxs, hfs, hp, hpi, hbf⟩
  refine ⟨_, rfl, _, rfl, nd, xs, rfl, .inl (.inl (.inl hxs)), _, _, rfl, rfl, _, rfl, ?_⟩
  have hxl := hp.len
  have hle := hbf.le
  have h131 := hbound hbf
  by_cases c : kk < xs.length
  · rw [decide_eq_true (by omega)]
    have hkN : kk < N := by
      have := hbf.len (BF.jCnt_pos (BF.within lim))
      omega
    obtain ⟨⟨⟨j1, t1⟩, j2, t2⟩, hj⟩ : ∃ y, ls[kk]? = some y := ⟨_, List.getElem?_eq_getElem (by omega)⟩
    obtain ⟨x, hx, q, x1, x2, rfl, hq, hx1, hx2⟩ := hp.get2 hj
    obtain ⟨hx1, hn1⟩ : TreeV K H j1 x1 t1 ∧ Ent K H x1 t1.box := hx1
    obtain ⟨hx2, hn2⟩ : TreeV K H j2 x2 t2 ∧ Ent K H x2 t2.box := hx2
    obtain ⟨p1, dx1, g1, bv1, es1, rfl, t1a⟩ := hx1.at_
    obtain ⟨p2, dx2, g2, bv2, es2, rfl, t2a⟩ := hx2.at_
    refine iteT ⟨fun σ' H' => ∃ m', m' < N - kk ∧ ∃ (xs fs : List V) (ls : List BF.JP) (its : List (Item × Item)) (kk : Nat) (o6 o7 : Option V), σ' = [some (.ref pa), some (.ref pb), some (.int lim), some (.ref nd), some (.ref fd), some (.int kk), o6, o7] ∧ m' = N - kk ∧ Same H H' ∧ H' nd = some (.lst xs) ∧ H' fd = some (.lst fs) ∧ Paired (PairV H' (SubE K H)) xs ls ∧ Paired (PairV H' (ItemAt K H)) fs its ∧
      BF.Bfs (BF.jCnt (BF.within lim)) (BF.jOut (BF.within lim)) N tot ls kk (its.map ids), fun σ' H' h => h, ?_⟩
    have hkk1 : ((kk : Int) + 1) = ((kk + 1 : Nat) : Int) := by omega
    refine ⟨_, rfl, _, rfl, nd, xs, _, _, rfl, rfl, .inl (.inl hxs), at_of rfl hx, q, _, rfl, .inl (.inl hq), rfl, _, _, rfl, _, _, rfl, rfl, ?_⟩
    dsimp only
    show tSeq (tIfS _ _ _) _ _ _ _
    show tAnd _ _ _ _ _
    refine tAnd_of (b1 := BF.isLeaf t1) (b2 := BF.isLeaf t2) ?_ ?_ ?_
    · refine fun k hk => ⟨_, rfl, _, _, _, _, _, rfl, S _ _ t1a.node, (kcl_Node T).cl, no_Node_level T, ndF_level, rfl, _, rfl, ?_⟩
      rw [show decide (V.int ((j1 : Int) + 1) = V.int 1) = BF.isLeaf t1 by rw [← leaf_lvl t1a]; exact decide_eq_decide.mpr ⟨fun z => by injection z, fun z => by rw [z]⟩]
      exact hk
    · refine fun k hk => ⟨_, rfl, _, _, _, _, _, rfl, S _ _ t2a.node, (kcl_Node T).cl, no_Node_level T, ndF_level, rfl, _, rfl, ?_⟩
      rw [show decide (V.int ((j2 : Int) + 1) = V.int 1) = BF.isLeaf t2 by rw [← leaf_lvl t2a]; exact decide_eq_decide.mpr ⟨fun z => by injection z, fun z => by rw [z]⟩]
      exact hk
    by_cases hl : (BF.isLeaf t1 && BF.isLeaf t2) = true
    · rw [hl]
      refine iteT ?_
      have h' := BF.jStep_leaf hbf hj hl
      obtain ⟨it1, rfl⟩ : ∃ l, t1 = .leaf l := by
        cases t1 with
        | leaf l => exact ⟨l, rfl⟩
        | node l => simp [BF.isLeaf] at hl
      obtain ⟨it2, rfl⟩ : ∃ l, t2 = .leaf l := by
        cases t2 with
        | leaf l => exact ⟨l, rfl⟩
        | node l => simp [BF.isLeaf] at hl
      obtain ⟨_, k1⟩ := t1a.kids
      obtain ⟨_, k2⟩ := t2a.kids
      have l1 := t1a.four
      have l2 := t2a.four
      refine ⟨_, rfl, .inl ⟨rfl, _, .inl (.inl hfs)⟩, _, rfl, _, _, _, _, _, rfl, S _ _ t1a.node, (kcl_Node T).cl, no_Node_entries T, ndF_entries, _, rfl, _, _, _, _, _, rfl, S _ _ t2a.node, (kcl_Node T).cl, no_Node_entries T, ndF_entries, _, rfl, Item, ItemAt K H, Item.box, g1, g2, lim, es1, es2, it1, it2, rfl, S _ _ t1a.list, S _ _ t2a.list, k1, k2, fun v z h => S.ent h.ent, by omega, by omega, fun D ys H6 hD S6 hys hpy => ?_⟩
      have hpl := hpi.len
      have hyl := hpy.len
      have hyb := BF.nearL_len (cond := fun p r => decide (Kvg6.squaredDistance p r ≤ lim)) Item.box it1 it2
      have hyb2 := Nat.mul_le_mul (show it1.length ≤ 4 by have := k1.len; omega) (show it2.length ≤ 4 by have := k2.len; omega)
      have hfl := hbf.out_len
      rw [List.length_map] at hfl
      refine ⟨fd, D, fs, ys, rfl, rfl, S6 _ _ hfs, hys, line_small (by omega), _, rfl, _, _, rfl, rfl, ?_⟩
      refine ⟨N - (kk + 1), by omega, xs, fs ++ ys, ls, its ++ BF.nearL (BF.within lim) Item.box it1 it2, kk + 1, some (.ref p1), some (.ref p2), ?_, rfl, (S.trans S6).upd2 hfd0, ?_, upd_same, ?_, ?_, ?_⟩
      · rw [← hkk1]
        rfl
      · rw [upd_ne hnf]
        exact S6 _ _ hxs
      · exact Paired.impl (fun _ _ h => (S6.pairV h).updL (S6 _ _ hfs)) hp
      · exact Paired.app (Paired.impl (fun _ _ h => (S6.pairV h).updL (S6 _ _ hfs)) hpi) (Paired.impl (fun _ _ h => h.updL (S6 _ _ hfs)) hpy)
      · rw [BF.jHere_eq] at h'
        rw [List.map_append]
        exact h'
    · rw [show (BF.isLeaf t1 && BF.isLeaf t2) = false by simpa using hl]
      refine iteF ?_
      have h' := BF.jStep_node hbf hj hx1.bal hx2.bal (by simpa using hl)
      refine ⟨_, rfl, .inl ⟨rfl, _, .inl (.inl hxs)⟩, _, rfl, j1, _, t1, H, rfl, S, hx1, hn1, fun b1 ys1 H6 S6 hy1 hpy1 hm1 => ?_⟩
      have S56 := S.trans S6
      refine ⟨_, rfl, j2, _, t2, H, rfl, S56, hx2, hn2, fun b2 ys2 H7 S7 hy2 hpy2 hm2 => ?_⟩
      have S57 := S56.trans S7
      refine ⟨_, rfl, Nat × Kvg6.Tree, SubE K H, BF.ltBox, b1, b2, lim, ys1, ys2, BF.partsL (j1, t1), BF.partsL (j2, t2), rfl, S7 _ _ hy1, hy2, hpy1, hpy2, fun v z h => S57.ent h.2, by omega, by omega, fun D ys H8 hD S8 hys hpy => ?_⟩
      have S58 := S57.trans S8
      have S68 := (S6.trans S7).trans S8
      have hpl := hp.len
      have hyl := hpy.len
      have hb2 := hbound h'
      rw [List.length_append] at hb2
      have hyl2 : (BF.jKids (BF.within lim) ((j1, t1), (j2, t2))).length = ys.length := hyl.symm
      refine ⟨nd, D, xs, ys, rfl, rfl, S68 _ _ hxs, hys, line_small (by omega), _, rfl, _, _, rfl, rfl, ?_⟩
      refine ⟨N - (kk + 1), by omega, xs ++ ys, fs, _, its, kk + 1, some (.ref p1), some (.ref p2), ?_, rfl, S58.upd2 hnd0, upd_same, ?_, ?_, ?_, h'⟩
      · rw [← hkk1]
        rfl
      · rw [upd_ne hnf.symm]
        exact S68 _ _ hfs
      · exact Paired.app (Paired.impl (fun _ _ h => (S68.pairV h).updL (S68 _ _ hxs)) hp) (Paired.impl (fun _ _ h => h.updL (S68 _ _ hxs)) hpy)
      · exact Paired.impl (fun _ _ h => (S68.pairV h).updL (S68 _ _ hxs)) hpi
  · rw [decide_eq_false (by omega)]
    obtain ⟨d1, d2⟩ := hbf.done (by omega)
    refine iteF ⟨_, rfl, nd, xs, rfl, .inl (.inl (.inl hxs)), _, rfl, fd, rfl, ⟨_, .inl (.inl hfs)⟩, ?_⟩
    have hpl := hpi.len
    have hfl := d2.length_eq
    rw [List.length_map] at hfl
    refine lc_pairs (S0 := ItemAt K H) its (fun _ => true) (fun H' u z => PairI H' u (ids z)) hpi ?_ ?_ ?_ ?_ ?_ ?_ ?_
    · exact fun H2 S2 => .inl (.inl (S2 _ _ hfs))
    · exact Nat.lt_of_le_of_lt (show fs.length ≤ 2304 by omega) (by decide)
    · exact fun _ _ _ _ S h => S.pairI h
    · exact fun _ _ => rfl
    · exact fun x y z H3 _ _ _ _ kf hk => hk _ (Same.refl _)
    · intro x y z H3 D acc hx hy _ _ S3 S3' hD kf hk
      obtain ⟨u1, w1, q1, rfl, g1, _⟩ := (S.trans S3).item hx
      obtain ⟨u2, w2, q2, rfl, g2, _⟩ := (S.trans S3).item hy
      exact ⟨_, rfl, _, _, _, _, _, rfl, g1, (kcl_Item T).cl, no_Item_number T, itF_number, _, rfl, _, _, _, _, _, rfl, g2, (kcl_Item T).cl, no_Item_number T, itF_number, by show 2 ≤ sizeLine; decide, fun r hr0 => hk _ _ (Same.upd hr0) ⟨r, rfl, off_at upd_same (ne_of_none hD hr0).symm⟩⟩
    · intro D H6 ys hD S6 hl hys
      have hyp : Paired (PairI H6) ys (its.map ids) := by
        rw [List.filter_eq_self.mpr fun _ _ => rfl] at hys
        exact Paired.mapR (Paired.impl (fun _ _ h => off_same.pairI h) hys)
      refine ⟨D, ys, pairOf H6, rfl, .inl (.inl hl), fun x hx => ?_, fun zs p hs ht hp0 => ⟨by show 2 ≤ sizeLine; decide, fun r hr0 => ?_⟩⟩
      · obtain ⟨z, _, q, rfl, h⟩ := paired_mem hyp hx
        refine ⟨q, rfl, ?_⟩
        rw [pairOf_eq (z := z) ⟨q, rfl, h⟩]
        exact h
      · have S7 := Same.upd (o := .lst zs) hp0
        have S8 := Same.upd (o := .tup [.int (xs.length : Nat), .ref p]) hr0
        have ST2 := ((S.trans S6).trans S7).trans S8
        rw [hN] at k h49
        refine k r p zs _ (((S.trans S6).trans S7).free hr0) ((S.trans S6).free hp0) ST2 ?_ (S8 _ _ upd_same) (Paired.impl (fun _ _ h => (S7.trans S8).pairI h) (sorted_pairs hyp d2 hs ht)) h49
        rw [upd_same, hxl, d1]
end
end BFW
namespace BFW
open PySem PySem.Spec PyProof.Rows L2 BFH
/-! ### min(xs, key=f), f a def of the text that gives tuples of ints -/
def rMinK (K : PySem.W.Frag) (f : Addr) (sp : Sp) : List V → List V → Hp → VK → Prop := fun vs zs H Q => ∃ (a : Addr) (xs : List V) (kf : Nat → List Int), vs = [.ref a] ∧ zs = [.ref f] ∧ H a = some (.lst xs) ∧ xs ≠ [] ∧
  (∀ i x H1, xs[i]? = some x → Same H H1 → ∀ Q : VK, (∀ u H2, Same H1 H2 → KeyT H2 u (kf i) → Q u H2) → sp [x] H1 Q E0) ∧
  ∀ i x H', xs[i]? = some x → BF.First kf xs.length i → Same H H' → Q x H'
section
variable {X : Cx} {j k : Nat} {sp : Sp} {x px : Str}
/-- the state between the turns -/
structure MinSt (X : Cx) (pins : List (Addr × Obj)) (σ : L2.St) (H Hj : Hp) (I S : Addr) (arr : Array Value) (n : Nat) (l : Addr) (s : Shared) : Prop where
  inv : Inv X pins σ Hj s
  same : Same H Hj
  lst : ∃ c, s.heap.get? S = some (seqObj "list" arr c)
  itr : s.heap.IsListIter I l n
  fS : FpOk X pins Hj S
  fI : FpOk X pins Hj I
section
variable {pins : List (Addr × Obj)} {σ : L2.St} {H Hj : Hp} {l I S : Addr} {arr : Array Value} {n : Nat} {s : Shared} {xs : List V} {Q : Option Value → Shared → Prop} {E : Value → Shared → Prop}
theorem fp_to {H' : Hp} {b : Addr} (h : FpOk X pins H b) (h' : H' b = none) : FpOk X pins H' b := ⟨h', h.2⟩
theorem mink_next (hc : X.calm = true) (M : MinSt X pins σ H Hj I S arr n l s) (hl : H l = some (.lst xs)) (hn : n < xs.length) (hlI : l ≠ I) (hSI : S ≠ I)
    (q : ∀ v val s', xs[n]? = some v → L2.RelV v val → MinSt X pins σ H Hj I S arr (n + 1) l s' → Q (some val) s') : wpAny (model X.prog X.w) X.A.in1 (pyNext (.ref I)) Q E s := by
  obtain ⟨J, SJ, ⟨c, hS⟩, hit, fS, fI⟩ := M
  obtain ⟨its, rv, hpl, hz⟩ := J.list (.inl (.inl (SJ _ _ hl)))
  have W := Walks.list (prog := X.prog) (w := X.w) (A := X.A.in1) (J.ok.hd hc) I l hlI its.toArray
  have e := rv.length
  refine W.item n s Q E (by rw [List.size_toArray]; omega) ⟨hit, hpl.isList⟩ fun v h' tk' hP hst' hk' => ?_
  obtain ⟨x, hx⟩ : ∃ x, xs[n]? = some x := ⟨_, List.getElem?_eq_getElem hn⟩
  obtain ⟨u, e1, r1⟩ := rv.get hx
  have e2 : its[n]? = some v := by simpa using hP
  rw [e1] at e2
  obtain rfl : u = v := by injection e2
  have k1 : ∀ b o, b ≠ I → s.heap.get? b = some o → h'.get? b = some o := fun b o hb e => hk' b o (by simpa using hb) e
  obtain ⟨g0, g1, g2, g3, g4, g5⟩ := fI
  exact q x _ _ hx r1 ⟨J.turned k1 g0 g1 g3 g4 g5, SJ, ⟨c, k1 S _ hSI hS⟩, hst'.1, fS, ⟨g0, g1, g2, g3, g4, g5⟩⟩
theorem mink_end (hc : X.calm = true) (M : MinSt X pins σ H Hj I S arr n l s) (hl : H l = some (.lst xs)) (hn : n = xs.length) (hlI : l ≠ I) (hSI : S ≠ I)
    (q : ∀ s', Inv X pins σ Hj s' → (∃ c, s'.heap.get? S = some (seqObj "list" arr c)) → Q none s') : wpAny (model X.prog X.w) X.A.in1 (pyNext (.ref I)) Q E s := by
  obtain ⟨J, SJ, ⟨c, hS⟩, hit, fS, fI⟩ := M
  obtain ⟨its, rv, hpl, hz⟩ := J.list (.inl (.inl (SJ _ _ hl)))
  have W := Walks.list (prog := X.prog) (w := X.w) (A := X.A.in1) (J.ok.hd hc) I l hlI its.toArray
  have e := rv.length
  have e2 : n = its.toArray.size := by rw [List.size_toArray]; omega
  subst hn
  refine W.done s Q E ⟨by rw [← e2]; exact hit, hpl.isList⟩ fun h' tk' hk' => ?_
  have k1 : ∀ b o, b ≠ I → s.heap.get? b = some o → h'.get? b = some o := fun b o hb e => hk' b o (by simpa using hb) e
  obtain ⟨g0, g1, g2, g3, g4, g5⟩ := fI
  exact q _ (J.turned k1 g0 g1 g3 g4 g5) ⟨c, k1 S _ hSI hS⟩
end
section
variable {pins : List (Addr × Obj)} {σ : L2.St} {H Hj : Hp} {l I S : Addr} {arr : Array Value} {n : Nat} {s : Shared} {xs : List V} {Q : Value → Shared → Prop} {E : Value → Shared → Prop}
theorem mink_call (F : Kn X.prog X.w X.K X.mg X.base x j [px] sp) (hr : Room j X.A.in1) {ks : List Int} (M : MinSt X pins σ H Hj I S arr n l s) {v : V} {val : Value} (rv : L2.RelV v val)
    (hkey : ∀ H1, Same H H1 → ∀ Q : VK, (∀ u H2, Same H1 H2 → KeyT H2 u ks → Q u H2) → sp [v] H1 Q E0) (sS : S ∉ frs X.stack) (sI : I ∉ frs X.stack)
    (q : ∀ w0 u H' s', MinSt X pins σ H H' I S arr n l s' → Same Hj H' → L2.RelV u w0 → KeyT H' u ks → Q w0 s') : wpAny (model X.prog X.w) X.A.in1 (call (.ref (He.ga X.K x)) [val]) Q E s := by
  obtain ⟨J, SJ, ⟨c, hS⟩, hit, fS, fI⟩ := M
  have e0 := J.env0.in1
  have run := F.ok.run X.A.in1 X.stack s Hj ⟨[val], []⟩ [val] [v] (fun u H2 => Same Hj H2 ∧ KeyT H2 u ks) E0 hr e0 (F.bd s [val] J.kIn rfl) (.cons rv .nil) (hkey Hj SJ _ fun u H2 S hd => ⟨S, hd⟩)
  refine wpAny_call (codeAny_mono run fun r s2 hq => ?_)
  cases r with
  | error er => exact False.elim hq
  | ok fl =>
    cases fl with
    | next => exact False.elim hq
    | brk => exact False.elim hq
    | cont => exact False.elim hq
    | ret w0 =>
      have hq' := hq
      obtain ⟨y, H2, os, bare, un, hok, ry, S2, hd⟩ := hq'
      have nS2 := un.keep S _ hS fS.1 sS (by simp)
      obtain ⟨oI, hoI, hoc, hod⟩ := hit
      have nI2 := un.keep I _ hoI fI.1 sI (by simp)
      have hS2 := un.free S _ hS fS.1 (by simp)
      have hI2 := un.free I _ hoI fI.1 (by simp)
      have J2 : Inv X pins σ H2 s2 := by
        obtain ⟨hh, g, d, t, os'⟩ := s2
        obtain rfl : os' = s.os := os
        exact J.call (h' := hh) (g' := g) (d' := d) (t' := t) (ch := []) un hok bare (fun b z => absurd z (by simp))
      exact q w0 y H2 s2 ⟨J2, SJ.trans S2, ⟨c, nS2⟩, ⟨oI, nI2, hoc, hod⟩, fp_to fS hS2, fp_to fI hI2⟩ S2 ry hd
end

theorem mink_loop (F : Kn X.prog X.w X.K X.mg X.base x j [px] sp) (hr : Room j X.A.in1) (hc : X.calm = true) {pins : List (Addr × Obj)} {σ : L2.St} {H : Hp} {l I S : Addr} {xs : List V} {kf : Nat → List Int} {R : Result → Shared → Prop}
    (hl : H l = some (.lst xs)) (hkey : ∀ i x H1, xs[i]? = some x → Same H H1 → ∀ Q : VK, (∀ u H2, Same H1 H2 → KeyT H2 u (kf i) → Q u H2) → sp [x] H1 Q E0) (hlI : l ≠ I) (hSI : S ≠ I) (sS : S ∉ frs X.stack) (sI : I ∉ frs X.stack)
    (hR : ∀ i x v H' s', xs[i]? = some x → L2.RelV x v → BF.First kf xs.length i → Inv X pins σ H' s' → Same H H' → R (.ok (.ret v)) s') :
    ∀ (r n i : Nat) (s : Shared) (Hj : Hp) (vb kb : Value) (xb kV : V), xs.length - n = r → n ≤ xs.length → MinSt X pins σ H Hj I S #[vb, kb] n l s → xs[i]? = some xb → L2.RelV xb vb → L2.RelV kV kb → KeyT Hj kV (kf i) → BF.First kf n i →
      codeAny (model X.prog X.w) X.A (.builtin "min.loop" ⟨[.ref I, .ref (He.ga X.K x), .ref S], []⟩) R s := by
  have hname : (toString "min" ++ toString ".loop" : String) = "min.loop" := by decide
  intro r
  induction r with
  | zero =>
    intro n i s Hj vb kb xb kV hr0 hn M hxb rb rk hk hf
    have hin : n = xs.length := by omega
    subst hin
    obtain ⟨c, hS⟩ := M.lst
    refine codeAny_builtin PySem.F.entry_min_loop ?_
    rw [Around.under_plainId PySem.F.plain_min_loop _]
    show wpAny _ X.A.in1 (seqItems? (.ref S) >>= _) _ _ _
    refine wpAny_bind (wpAny_seqItems hS rfl ?_)
    show wpAny _ X.A.in1 (tryCatch (pyNext (.ref I)) _ >>= _) _ _ _
    refine wpAny_bind (wpAny_tryCatch (mink_end hc M hl rfl hlI hSI fun s1 J1 h1 => ?_))
    obtain ⟨c1, hS1⟩ := h1
    have s1' := Heap.SameBut.update s1.heap S (Obj.mapSeq fun _ => (#[] : Array Value))
    show wpAny _ X.A.in1 (updateSeq S (fun _ => #[]) >>= _) _ _ _
    refine wpAny_bind ?_
    refine wpAny_updateSeq hS1 rfl (wpAny_bind (wpAny_letGo (wpAny_pure ?_)))
    obtain ⟨g0, g1, g2, g3, g4, g5⟩ := M.fS
    exact hR i xb vb Hj _ hxb rb hf (J1.turned (t' := s1.toks) (fun b o hb e => (s1'.2 b hb).trans e) g0 g1 g3 g4 g5) M.same
  | succ r ih =>
    intro n i s Hj vb kb xb kV hr0 hn M hxb rb rk hk hf
    have hlt : n < xs.length := by omega
    obtain ⟨c, hS⟩ := M.lst
    refine codeAny_builtin PySem.F.entry_min_loop ?_
    rw [Around.under_plainId PySem.F.plain_min_loop _]
    show wpAny _ X.A.in1 (seqItems? (.ref S) >>= _) _ _ _
    refine wpAny_bind (wpAny_seqItems hS rfl ?_)
    show wpAny _ X.A.in1 (tryCatch (pyNext (.ref I)) _ >>= _) _ _ _
    refine wpAny_bind (wpAny_tryCatch (mink_next hc M hl hlt hlI hSI fun v val s1 hv rv M1 => ?_))
    show wpAny _ X.A.in1 (tryCatch (holding [val] (call (.ref (He.ga X.K x)) [val])) _ >>= _) _ _ _
    refine wpAny_bind (wpAny_tryCatch (wpAny_holding (mink_call F hr M1 rv (fun H1 S1 => hkey n v H1 hv S1) sS sI fun w0 u H2 s2 M2 S2 ru hu => ?_)))
    obtain ⟨as, r1⟩ := Dp.reads M2.inv _ _ _ hu.dp ru
    obtain ⟨bs, r2⟩ := Dp.reads M2.inv _ _ _ (S2.keyT hk).dp rk
    obtain ⟨c2, hS2⟩ := M2.lst
    have hun : X.A.in1.units + min (tD (kf n)).depth (tD (kf i)).depth < cLine := by
      have h1 := tD_depth (kf n)
      have h2 := hr.units
      omega
    show wpAny _ X.A.in1 (tryCatch (holding [val, w0] (compareOp .Lt w0 kb >>= _)) _ >>= _) _ _ _
    refine wpAny_bind (wpAny_tryCatch (wpAny_holding (wpAny_bind (PySem.W.lt_data r1 r2 (tD_alike _ _) (fun z => nomatch z) hun ?_))))
    refine wpAny_bind (wpAny_holding (wpAny_truthy_bool ?_))
    refine wpAny_bind (wpAny_letGo (wpAny_pure ?_))
    rw [tD_lt]
    cases hb : BF.klt (kf n) (kf i) with
    | true =>
      have s1' := Heap.SameBut.update s2.heap S (Obj.mapSeq fun _ => #[val, w0])
      obtain ⟨c3, hc3⟩ : ∃ c3, (s2.heap.update S (Obj.mapSeq fun _ => #[val, w0])).get? S = some (seqObj "list" #[val, w0] c3) := ⟨_, get?_update_seq hS2 fun _ => #[val, w0]⟩
      simp only [if_true]
      refine wpAny_bind ?_
      refine wpAny_updateSeq hS2 rfl (wpAny_bind (wpAny_letGo ?_))
      rw [hname]
      obtain ⟨g0, g1, g2, g3, g4, g5⟩ := M2.fS
      obtain ⟨oI, hoI, hoc, hod⟩ := M2.itr
      refine wpAny_pure ⟨plainId_quiet PySem.F.plain_min_loop _, ih (n + 1) n _ H2 val w0 v u (by omega) hlt ⟨M2.inv.turned (t' := s2.toks) (fun b o hb e => (s1'.2 b hb).trans e) g0 g1 g3 g4 g5, M2.same, ⟨c3, hc3⟩, ⟨oI, (s1'.2 I hSI.symm).trans hoI, hoc, hod⟩, M2.fS, M2.fI⟩ hv rv ru hu (hf.yes hb)⟩
    | false =>
      simp only [Bool.false_eq_true, if_false]
      refine wpAny_bind (wpAny_letGo ?_)
      rw [hname]
      exact wpAny_pure ⟨plainId_quiet PySem.F.plain_min_loop _, ih (n + 1) i _ H2 vb kb xb kV (by omega) hlt M2 hxb rb rk (S2.keyT hk) (hf.no hb)⟩

theorem cr_minKey (F : Kn X.prog X.w X.K X.mg X.base x j [px] sp) (hr : Room k X.A) (hjk : j + 1 ≤ k := by decide) (hc : X.calm = true := by rfl) : CallRK X (.builtin "min") [Str.ofString "key"] (rMinK X.K (He.ga X.K x) sp) := by
  intro pins s σ H vs zs us ws Q I0 r rz h
  obtain ⟨l, xs, kf, rfl, rfl, hl, hne, hkey, q⟩ := h
  obtain ⟨its, rv, hpl, hz⟩ := I0.list (.inl (.inl hl))
  rw [Vals.ref1 r, Vals.ref1 rz]
  have hr2 : Room j X.A.in1 := (hr.mono hjk).in1
  have hls := hpl.isList
  obtain ⟨ol, hol, _⟩ := id hls
  have hll : l < s.heap.objs.size := Heap.lt_size hol
  have hname : (toString "min" ++ toString ".loop" : String) = "min.loop" := by decide
  have hpos : 0 < xs.length := by cases xs with
    | nil => exact absurd rfl hne
    | cons a b => exact Nat.succ_pos _
  show wpAny _ _ (call (.builtin "min") [.ref l] [(Str.ofString "key", .ref (He.ga X.K x))]) _ _ _
  refine kmk_tree PySem.F.kind_min PySem.F.plain_min PySem.F.entry_min (kmk_min_key _ _) ?_
  show wpAny _ X.A.in1 (Builtin.Builtins.bindParams "min" ["key", "default"] 0 ⟨[], [(Str.ofString "key", .ref (He.ga X.K x))]⟩ >>= _) _ _ s
  refine wpAny_bind (wpAny_of_eq (show Builtin.Builtins.bindParams "min" ["key", "default"] 0 ⟨[], [(Str.ofString "key", .ref (He.ga X.K x))]⟩ = pure [some (.ref (He.ga X.K x)), none] from rfl) ?_)
  refine wpAny_bind (wpAny_pure ?_)
  refine wpAny_bind (wpAny_pyIter_list hls ?_)
  refine wpAny_bind (wpAny_newList ?_ (Nat.zero_le _))
  rw [hname]
  have hS : (s.heap.push { cls := .type "list_iterator", data := .fields #[.ref l, .int 0 0] }).objs.size = s.heap.objs.size + 1 := size_push' ..
  have gI : ((s.heap.push { cls := .type "list_iterator", data := .fields #[.ref l, .int 0 0] }).push (seqObj "list" #[] 0)).get? s.heap.objs.size = some { cls := .type "list_iterator", data := .fields #[.ref l, .int 0 0] } :=
    Heap.get?_push_of_some _ (Heap.get?_push_size _ rfl)
  have gS : ((s.heap.push { cls := .type "list_iterator", data := .fields #[.ref l, .int 0 0] }).push (seqObj "list" #[] 0)).get? (s.heap.push { cls := .type "list_iterator", data := .fields #[.ref l, .int 0 0] }).objs.size = some (seqObj "list" #[] 0) := Heap.get?_push_size _ rfl
  have up : ∀ b o, s.heap.get? b = some o → ((s.heap.push { cls := .type "list_iterator", data := .fields #[.ref l, .int 0 0] }).push (seqObj "list" #[] 0)).get? b = some o := fun b o e => Heap.get?_push_of_some _ (Heap.get?_push_of_some _ e)
  have I1 : Inv X pins σ H { s with heap := (s.heap.push { cls := .type "list_iterator", data := .fields #[.ref l, .int 0 0] }).push (seqObj "list" #[] 0) } := I0.kept (t' := s.toks) up
  have hleI : s.heap.objs.size ≤ s.heap.objs.size := Nat.le_refl _
  have hleS : s.heap.objs.size ≤ (s.heap.push { cls := .type "list_iterator", data := .fields #[.ref l, .int 0 0] }).objs.size := by rw [hS]; exact Nat.le_succ _
  have fI := I0.fpOk (H' := H) hleI (I0.hok.fresh hleI)
  have fS := I0.fpOk (H' := H) hleS (I0.hok.fresh hleS)
  have sI := stk_not I0 hleI
  have sS := stk_not I0 hleS
  have hlI : l ≠ s.heap.objs.size := Nat.ne_of_lt hll
  have hSI : (s.heap.push { cls := .type "list_iterator", data := .fields #[.ref l, .int 0 0] }).objs.size ≠ s.heap.objs.size := by rw [hS]; exact Nat.ne_of_gt (Nat.lt_succ_self _)
  refine wpAny_pure ⟨plainId_quiet PySem.F.plain_min_loop _, ?_⟩
  generalize (s.heap.push { cls := .type "list_iterator", data := .fields #[.ref l, .int 0 0] }).objs.size = aS at *
  generalize s.heap.objs.size = aI at *
  generalize (s.heap.push { cls := .type "list_iterator", data := .fields #[.ref l, .int 0 0] }).push (seqObj "list" #[] 0) = h1 at *
  have M : MinSt X pins σ H H aI aS #[] 0 l { s with heap := h1 } := ⟨I1, Same.refl H, ⟨0, gS⟩, ⟨_, gI, rfl, rfl⟩, fS, fI⟩
  refine codeAny_builtin PySem.F.entry_min_loop ?_
  rw [Around.under_plainId PySem.F.plain_min_loop _]
  show wpAny _ X.A.in1 (seqItems? (.ref aS) >>= _) _ _ _
  refine wpAny_bind (wpAny_seqItems gS rfl ?_)
  show wpAny _ X.A.in1 (tryCatch (pyNext (.ref aI)) _ >>= _) _ _ _
  refine wpAny_bind (wpAny_tryCatch (mink_next hc M hl hpos hlI hSI fun v val s1 hv rv1 M1 => ?_))
  show wpAny _ X.A.in1 (tryCatch (holding [val] (call (.ref (He.ga X.K x)) [val])) _ >>= _) _ _ _
  refine wpAny_bind (wpAny_tryCatch (wpAny_holding (mink_call F hr2 M1 rv1 (fun H1 S1 => hkey 0 v H1 hv S1) sS sI fun w0 u H2 s2 M2 S2 ru hu => ?_)))
  obtain ⟨c2, hS2⟩ := M2.lst
  have s1' := Heap.SameBut.update s2.heap aS (Obj.mapSeq fun _ => #[val, w0])
  obtain ⟨c3, hc3⟩ : ∃ c3, (s2.heap.update aS (Obj.mapSeq fun _ => #[val, w0])).get? aS = some (seqObj "list" #[val, w0] c3) := ⟨_, get?_update_seq hS2 fun _ => #[val, w0]⟩
  show wpAny _ X.A.in1 (updateSeq aS (fun _ => #[val, w0]) >>= _) _ _ _
  refine wpAny_bind ?_
  refine wpAny_updateSeq hS2 rfl ?_
  rw [hname]
  obtain ⟨g0, g1, g2, g3, g4, g5⟩ := M2.fS
  obtain ⟨oI, hoI, hoc, hod⟩ := M2.itr
  refine wpAny_pure ⟨plainId_quiet PySem.F.plain_min_loop _, mink_loop F hr2 hc hl hkey hlI hSI sS sI (fun i x v H' s' hx rx hf J SJ => ?_) _ 1 0 _ H2 val w0 v u rfl hpos ⟨M2.inv.turned (t' := s2.toks) (fun b o hb e => (s1'.2 b hb).trans e) g0 g1 g3 g4 g5, M2.same, ⟨c3, hc3⟩, ⟨oI, (s1'.2 aI hSI.symm).trans hoI, hoc, hod⟩, M2.fS, M2.fI⟩ hv rv1 ru hu (BF.First.one kf)⟩
  exact ⟨x, H', J, rx, q i x H' hx hf SJ⟩
end
end BFW
namespace BFW
open PySem PySem.Spec PyProof.Rows L2 BFH
open Kvg6 (Box Item)
open BF (BoxOk ItOk)
/-- a comprehension over a walk that may make objects -/
theorem lc_genY {J : It} {n : Nat} {G : Hp → Prop} {Y : Nat → Hp → V → Hp → Prop} {H0 : Hp} {D : Addr} {g : TG} {tt : TT} {te : TE} {vs : List Nat} {σ : L2.St} {Qd : Hp → Prop} {α : Type} (zs : List α) (p : α → Bool) (R : Hp → V → α → Prop) (Post : L2.St → α → Prop)
    (w : Walk J n G Y) (hY : ∀ i H x H', i < n → Y i H x H' → Same H H') (hn : zs.length = n) (hz : n < sizeLine) (hD : H0 D = none) (hG : ∀ H, Same H0 H → G H)
    (mono : ∀ H H' v z, Same H H' → R H v z → R H' v z)
    (tgt : ∀ i z H x H', i < n → zs[i]? = some z → Same H0 H → Y i H x H' → ∀ k : L2.St → Hp → Prop, (∀ σ2, Post σ2 z → wipe σ2 vs = wipe σ vs → k σ2 H') → g x (wipe σ vs) H' k)
    (test : ∀ z H σ2, z ∈ zs → Post σ2 z → Same H0 H → ∀ k : Bool → Hp → Prop, (∀ H', Same H H' → k (p z) H') → tt σ2 H k)
    (elt : ∀ z H σ2 acc, z ∈ zs → Post σ2 z → p z = true → Same H0 H → Same H0 (off H D) → H D = some (.lst acc) → ∀ k : VK, (∀ y H', Same H H' → R (off H' D) y z → k y H') → te σ2 H k)
    (fin : ∀ H' ys, Same H0 H' → H' D = some (.lst ys) → Paired (R (off H' D)) ys (zs.filter p) → Qd H') :
    ∃ W : Nat → Nat → Hp → Prop, (∃ m, W 0 m (upd H0 D (.lst []))) ∧ ∀ i m H, W i m H →
      (J.stop i H ∧ Qd H) ∨ (J.go i H ∧ ∃ Nx : Hp → Prop, (∀ H', Nx H' → ∃ m', m' < m ∧ W (i + 1) m' H') ∧ ∀ x H', J.yld i H x H' → g x (wipe σ vs) H' fun σ2 H2 => wipe σ2 vs = wipe σ vs ∧ tt σ2 H2 fun b H3 =>
        if b = true then te σ2 H3 fun y H4 => ∃ acc, H4 D = some (.lst acc) ∧ acc.length < sizeLine ∧ Nx (upd H4 D (.lst (acc ++ [y]))) else Nx H3) := by
  refine lc_it w (fun i H => Same H0 H ∧ ∃ acc, H D = some (.lst acc) ∧ Paired (R (off H D)) acc ((zs.take i).filter p)) ?_ ?_ ?_ ?_
  · exact ⟨Same.upd hD, [], upd_same, by rw [List.take_zero]; exact .nil⟩
  · exact fun i H _ h => hG H h.1
  · rintro i x H H1 hi ⟨S, acc, hacc, hp⟩ hy
    obtain ⟨z, hz1⟩ : ∃ z, zs[i]? = some z := ⟨zs[i]'(by omega), by simp [hn, hi]⟩
    have hzm := List.mem_of_getElem? hz1
    have SY := hY i H x H1 hi hy
    have htk : zs.take (i + 1) = zs.take i ++ [z] := by
      rw [List.take_add_one, hz1]
      rfl
    have hle : acc.length < sizeLine := by
      have e1 := hp.len
      have e2 : ((zs.take i).filter p).length ≤ i := Nat.le_trans (List.length_filter_le _ _) (List.length_take_le _ _)
      omega
    refine tgt i z _ x H1 hi hz1 S hy _ fun σ2 hσ hw => ⟨hw, test z _ σ2 hzm hσ (S.trans SY) _ fun H2 S2 => ?_⟩
    cases hpz : p z with
    | false =>
      refine iteF ⟨(S.trans SY).trans S2, acc, S2 _ _ (SY _ _ hacc), ?_⟩
      rw [htk, List.filter_append, show [z].filter p = [] by simp [hpz], List.append_nil]
      exact Paired.impl (fun _ _ h => mono _ _ _ _ (Same.off (SY.trans S2)) h) hp
    | true =>
      have SS := (S.trans SY).trans S2
      refine iteT (elt z H2 σ2 acc hzm hσ hpz SS (SS.off0 hD) (S2 _ _ (SY _ _ hacc)) _ fun y H3 S3 hR => ?_)
      refine ⟨acc, S3 _ _ (S2 _ _ (SY _ _ hacc)), hle, (SS.trans S3).upd2 hD, acc ++ [y], upd_same, ?_⟩
      rw [off_upd, htk, List.filter_append, show [z].filter p = [z] by simp [hpz]]
      exact Paired.app (Paired.impl (fun _ _ h => mono _ _ _ _ (Same.off ((SY.trans S2).trans S3)) h) hp) (Paired.one hR)
  · rintro H ⟨S, acc, hacc, hp⟩
    rw [← hn, List.take_length] at hp
    exact fin H acc S hacc hp
section
variable {P : Program} {w : World} {K : PySem.W.Frag} {mg : Str → Option Value} {base : Heap}
/-- over enumerate(xs), the names in the slots i and j -/
theorem lc_enum {a : Addr} {xs : List V} {H0 : Hp} {i j : Nat} {tt : TT} {te : TE} {vs : List Nat} {σ : L2.St} {Qd : Addr → Hp → Prop} {α : Type} {R0 : V → α → Prop} (zs : List α) (p : α × Nat → Bool) (R : Hp → V → α × Nat → Prop)
    (hx : Paired R0 xs zs) (hs : ∀ H, Same H0 H → SqL K H a xs) (hz : xs.length < sizeLine)
    (mono : ∀ H H' v z, Same H H' → R H v z → R H' v z)
    (hw : ∀ x y, wipe (((wipe σ vs).set i (some x)).set j (some y)) vs = wipe σ vs)
    (test : ∀ (n : Nat) x z H, zs[n]? = some z → R0 x z → Same H0 H → ∀ k : Bool → Hp → Prop, (∀ H', Same H H' → k (p (z, n)) H') → tt (((wipe σ vs).set i (some (.int n))).set j (some x)) H k)
    (elt : ∀ (n : Nat) x z H D acc, zs[n]? = some z → R0 x z → p (z, n) = true → Same H0 H → Same H0 (off H D) → H D = some (.lst acc) → ∀ k : VK, (∀ u H', Same H H' → R (off H' D) u (z, n) → k u H') → te (((wipe σ vs).set i (some (.int n))).set j (some x)) H k)
    (fin : ∀ D H' ys, H0 D = none → Same H0 H' → H' D = some (.lst ys) → Paired (R (off H' D)) ys (zs.zipIdx.filter p) → Qd D H') :
    ∀ D, H0 D = none → ∃ W : Nat → Nat → Hp → Prop, (∃ m, W 0 m (upd H0 D (.lst []))) ∧ ∀ i' m H, W i' m H →
      ((Ite K a).stop i' H ∧ Qd D H) ∨ ((Ite K a).go i' H ∧ ∃ Nx : Hp → Prop, (∀ H', Nx H' → ∃ m', m' < m ∧ W (i' + 1) m' H') ∧ ∀ x H', (Ite K a).yld i' H x H' → gTup K 2 (gCons (gName i) (gCons (gName j) gNil)) x (wipe σ vs) H' fun σ2 H2 => wipe σ2 vs = wipe σ vs ∧ tt σ2 H2 fun b H3 =>
        if b = true then te σ2 H3 fun y H4 => ∃ acc, H4 D = some (.lst acc) ∧ acc.length < sizeLine ∧ Nx (upd H4 D (.lst (acc ++ [y]))) else Nx H3) := by
  intro D hD
  have hzl : zs.zipIdx.length = xs.length := by rw [List.length_zipIdx]; exact hx.len.symm
  have hzi : ∀ (m : Nat) (z : α × Nat), zs.zipIdx[m]? = some z → z.2 = m ∧ zs[m]? = some z.1 := by
    intro m z h
    rw [BF.getElem?_zipIdx'] at h
    obtain ⟨y, h1, rfl⟩ := Option.map_eq_some_iff.mp h
    exact ⟨rfl, h1⟩
  refine lc_genY zs.zipIdx p R (fun σ2 z => ∃ x, σ2 = ((wipe σ vs).set i (some (.int (z.2 : Nat)))).set j (some x) ∧ R0 x z.1 ∧ zs[z.2]? = some z.1) walk_enum ?_ hzl hz hD hs mono ?_ ?_ ?_ (fun H' ys => fin D H' ys hD)
  · rintro i' H x H' _ ⟨T, x1, y1, rfl, hT, rfl, _⟩
    exact Same.upd hT
  · rintro i' z H x H' hi hz1 S ⟨T, x1, y1, rfl, hT, rfl, e1, e2⟩ k hk
    obtain ⟨h1, h2⟩ := hzi _ _ hz1
    cases e1
    obtain ⟨z', hz', r⟩ := hx.get e2
    rw [h2] at hz'
    cases hz'
    exact ⟨T, _, rfl, .inl (.inl upd_same), rfl, _, _, rfl, _, _, rfl, rfl, hk _ ⟨y1, by rw [h1], r, by rw [h1]; exact h2⟩ (hw _ _)⟩
  · rintro ⟨z, m⟩ H σ2 hz1 ⟨x, rfl, r, hm⟩ S k hk
    exact test m x z H hm r S k hk
  · rintro ⟨z, m⟩ H σ2 acc hz1 ⟨x, rfl, r, hm⟩ hp S S' ha k hk
    exact elt m x z H D acc hm r hp S S' ha k hk
/-! ### rows of the queue -/
def RowX (K : PySem.W.Frag) (G : Hp) (y : V) (e : BF.QE) : Prop := (∃ x, e.x = .inl x ∧ e.kind = 0 ∧ TreeV K G x.1 y x.2) ∨ ∃ it, e.x = .inr it ∧ e.kind = 1 ∧ ItemAt K G y it
def RowV (K : PySem.W.Frag) (G H : Hp) (v : V) (e : BF.QE) : Prop := ∃ q y, v = .ref q ∧ H q = some (.tup [.int e.d, .int (e.kind : Int), .int e.ord, y]) ∧ RowX K G y e
theorem _root_.L2.Same.rowV {G H H' : Hp} {v : V} {e : BF.QE} (S : Same H H') (h : RowV K G H v e) : RowV K G H' v e := by
  obtain ⟨q, y, e, h, r⟩ := h
  exact ⟨q, y, e, S _ _ h, r⟩
theorem RowV.updL {G H : Hp} {v : V} {e : BF.QE} {a : Addr} {l l' : List V} (h : RowV K G H v e) (ha : H a = some (.lst l)) : RowV K G (upd H a (.lst l')) v e := by
  obtain ⟨q, y, e, hq, r⟩ := h
  refine ⟨q, y, e, ?_, r⟩
  rw [upd_ne (fun z => by subst z; rw [ha] at hq; cases hq)]
  exact hq
def spOrder : Sp := fun vs H Q _ => ∃ (q : Addr) (i j k : Int) (y : V), vs = [.ref q] ∧ H q = some (.tup [.int i, .int j, .int k, y]) ∧ ∀ u H', Same H H' → KeyT H' u [i, j, k] → Q u H'
theorem sc_order : FnScope ["row"] ["row"] (defScope s_order) := ⟨rfl, rfl, rfl, by decide +kernel, rfl, by decide +kernel, by decide +kernel⟩
theorem k_order (T : Tx K mg) : Kn P w K mg base "order" 1 ["row"] (spOrder) := by
  have F := T.fn1 60 (x := "order") (st := s_order) rfl
  have sc := sc_order
  let st : Stmt := s_order
  let nn : List Str := ["row"]
  refine ⟨F.ok sc (fun vs H Q E h => ?_) (fun cdv A outer s H vs Q E hr h => ?_), F.binds fun _ _ _ _ _ _ us hl => match us, hl with | [_], _ => rfl, F.kp, T.glo 47⟩

  · obtain ⟨q, i, j, k', y, rfl, _⟩ := h
    rfl
  obtain ⟨q, i, j, k', y, rfl, hq, k⟩ := h
  refine ⟨_, (pss_one (ps_ret (pe_slice sl_tup (pv 0) po_none (po_some pe_int)))), ?_⟩
  exact ⟨_, rfl, 3, rfl, q, _, rfl, .inl (.inl hq), by show ¬(HT.sIx 4 0 none = 0 ∧ HT.sIx 4 4 (some 3) = 4); decide, fun p hp => k _ _ (Same.upd hp) ⟨p, rfl, upd_same⟩⟩
def spFirst (K : PySem.W.Frag) : Sp := fun vs H Q _ => ∃ (n : Nat) (v : V) (t : Kvg6.Tree) (q : Addr) (b : Box), vs = [v, .ref q] ∧ TreeV K H n v t ∧ BF.GoodAt n t ∧ BoxAt H q b ∧
  ∀ a xs H', H a = none → Same H H' → H' a = some (.lst xs) → Paired (RowV K H H') xs (if t.items.isEmpty then [] else [⟨Kvg6.squaredDistance t.box b, 0, 0, .inl (n, t)⟩]) → Q (.ref a) H'
theorem sc_first_rows : FnScope ["root", "box"] ["root", "box"] (defScope s_first_rows) := ⟨rfl, rfl, rfl, by decide +kernel, rfl, by decide +kernel, by decide +kernel⟩
theorem k_first_rows (T : Tx K mg) : Kn P w K mg base "first_rows" 2 ["root", "box"] (spFirst K) := by
  have F := T.fn1 62 (x := "first_rows") (st := s_first_rows) rfl
  have sc := sc_first_rows
  let st : Stmt := s_first_rows
  let nn : List Str := ["root", "box"]
  refine ⟨F.ok sc (fun vs H Q E h => ?_) (fun cdv A outer s H vs Q E hr h => ?_), F.binds fun _ _ _ _ _ _ us hl => match us, hl with | [_, _], _ => rfl, F.kp, T.glo 49⟩

  · obtain ⟨n, v, t, q, b, rfl, _⟩ := h
    rfl
  obtain ⟨n, v, t, q, b, rfl, ht, hg, hq, k⟩ := h
  refine ⟨_, (pss_one (ps_ret (pe_ifExp (pt_cmpR (op_neNil hr.units0) (pe_fld (pv 0) rfl) (pe_lst pa_nil) (nomark _)) (pe_lst (pa_cons (pe_tup (pa_cons (kc (k_squared_distance T) hr (pa_cons (pe_fld (pv 0) rfl) (pa_cons (pv 1) pa_nil))) (pa_cons pe_int (pa_cons pe_int (pa_cons (pv 0) pa_nil))))) pa_nil)) (pe_lst pa_nil)))), ?_⟩
  obtain ⟨p, dx, e, bv, xs, rfl, ta⟩ := ht.at_
  have e1 := ents_empty ta hg
  refine ⟨_, rfl, _, _, _, _, _, rfl, ta.node, (kcl_Node T).cl, no_Node_entries T, ndF_entries, Nat.zero_le _, fun l hl => ⟨e, l, xs, rfl, rfl, .inl (.inl (Same.upd hl _ _ ta.list)), upd_same, _, rfl, ?_⟩⟩
  have S := Same.upd (o := .lst []) hl
  generalize upd H l (.lst []) = H1 at *
  rw [e1]
  cases c : t.items.isEmpty with
  | true =>
    rw [c] at k
    refine iteF ⟨Nat.zero_le _, fun l2 hl2 => k l2 [] _ (S.free hl2) (S.trans (Same.upd hl2)) upd_same .nil⟩
  | false =>
    rw [c] at k e1
    have hen := ta.ent (by have := hg.low; omega) (fun z => by rw [z] at e1; cases e1)
    obtain ⟨a1, C1, d1, f1, q1, ea, h1, c1, n1, l1, b1⟩ := ent_fld T (S.ent hen)
    obtain rfl : p = a1 := by injection ea
    refine iteT ⟨_, rfl, _, _, _, _, _, rfl, h1, c1, n1, l1, _, rfl, q1, q, t.box, b, rfl, b1, S.box hq, _, rfl, by show 4 ≤ sizeLine; decide, fun u hu => ⟨by show 1 ≤ sizeLine; decide, fun l2 hl2 => ?_⟩⟩
    have S2 := Same.upd (o := .tup [.int (Kvg6.squaredDistance t.box b), .int 0, .int 0, .ref p]) hu
    have S3 := Same.upd (o := .lst [.ref u]) hl2
    exact k l2 [.ref u] _ ((S.trans S2).free hl2) ((S.trans S2).trans S3) upd_same (.one ⟨u, .ref p, rfl, S3 _ _ upd_same, .inl ⟨_, rfl, rfl, ht⟩⟩)
def spRows (K : PySem.W.Frag) : Sp := fun vs H Q _ => ∃ (n : Nat) (v : V) (t : Kvg6.Tree) (q : Addr) (b : Box) (time : Int) (G : Hp), vs = [v, .ref q, .int time] ∧ Same G H ∧ TreeV K G n v t ∧ BoxAt H q b ∧
  ∀ a xs H', H a = none → Same H H' → H' a = some (.lst xs) → Paired (RowV K G H') xs (BF.rowsOf b time (n, t)) → Q (.ref a) H'
theorem sc_rows_for : FnScope ["node", "box", "time", "k", "child", "item"] ["node", "box", "time"] (defScope s_rows_for) := ⟨rfl, rfl, rfl, by decide +kernel, rfl, by decide +kernel, by decide +kernel⟩
theorem k_rows_for (T : Tx K mg) : Kn P w K mg base "rows_for" 2 ["node", "box", "time"] (spRows K) := by
  have F := T.fn1 61 (x := "rows_for") (st := s_rows_for) rfl
  have sc := sc_rows_for
  let st : Stmt := s_rows_for
  let nn : List Str := ["node", "box", "time", "k", "child", "item"]
  refine ⟨F.ok sc (fun vs H Q E h => ?_) (fun cdv A outer s H vs Q E hr h => ?_), F.binds fun _ _ _ _ _ _ us hl => match us, hl with | [_, _, _], _ => rfl, F.kp, T.glo 48⟩

  · obtain ⟨n, v, t, q, b, time, G, rfl, _⟩ := h
    rfl
  obtain ⟨n, v, t, q, b, time, G, rfl, SG, ht, hq, k⟩ := h
  refine ⟨_, (pss_cons (ps_if (pt_cmpR op_eq (pe_fld (pv 0) rfl) pe_int (nomark _)) (pss_one (ps_ret (pe_lc (own := [("item", 5)]) (g := gName 5) (tt := tYes) rfl sc.nd (pi_list (pe_fld (pv 0) rfl)) (blkOk_by (N := nn) (sc := defScope st) (by decide +kernel)) (fun _ _ _ _ _ => (pg_name (i := 5) sc.nd rfl (Or.inl rfl))) (fun _ _ _ _ _ => pts_nil) (fun _ _ _ _ _ => (pe_tup (pa_cons (kc (k_squared_distance T) hr (pa_cons (pe_fldK (K := K) rfl (pv 5) rfl) (pa_cons (pv 1) pa_nil))) (pa_cons pe_int (pa_cons (pe_fldK (K := K) rfl (pv 5) rfl) (pa_cons (pv 5) pa_nil))))))))) pss_nil)
      (pss_one (ps_ret (pe_lc (own := [("k", 3), ("child", 4)]) (g := gTup K 2 (gCons (gName 3) (gCons (gName 4) (gNil)))) (tt := tYes) rfl sc.nd (pi_enum (by rfl) (T.free 102) (pa_cons (pe_fld (pv 0) rfl) pa_nil)) (blkOk_by (N := nn) (sc := defScope st) (by decide +kernel)) (fun _ _ _ _ _ => (pg_tup rfl (pgs_cons (pg_name (i := 3) sc.nd rfl (Or.inl rfl)) (pgs_cons (pg_name (i := 4) sc.nd rfl (Or.inl rfl)) pgs_nil)))) (fun _ _ _ _ _ => pts_nil) (fun _ _ _ _ _ => (pe_tup (pa_cons (kc (k_squared_distance T) hr (pa_cons (pe_fldK (K := K) rfl (pv 4) rfl) (pa_cons (pv 1) pa_nil))) (pa_cons pe_int (pa_cons (pe_op op_add (pv 2) (pv 3)) (pa_cons (pv 4) pa_nil)))))))))), ?_⟩
  obtain ⟨p, dx, e, bv, xs, rfl, ta⟩ := ht.at_
  have h4 := ta.four
  have hk := ta.kids
  refine ⟨_, rfl, _, _, _, _, _, rfl, SG _ _ ta.node, (kcl_Node T).cl, no_Node_level T, ndF_level, rfl, _, rfl, ?_⟩
  cases t with
  | leaf items =>
    obtain ⟨rfl, hk⟩ := hk
    rw [decide_eq_true (by rfl)]
    refine iteT ⟨_, rfl, _, _, _, _, _, rfl, SG _ _ ta.node, (kcl_Node T).cl, no_Node_entries T, ndF_entries, e, rfl, ⟨_, .inl (.inl (SG _ _ ta.list))⟩, ?_⟩
    refine lc_li (R0 := ItemAt K G) items (fun _ => true) (fun H' u it => RowV K G H' u ⟨Kvg6.squaredDistance it.box b, 1, (it.id : Int), .inr it⟩) hk ?_ ?_ ?_ ?_ ?_ ?_ ?_
    · exact fun H2 S3 => .inl (.inl (S3 _ _ (SG _ _ ta.list)))
    · exact Nat.lt_of_le_of_lt h4 (by decide)
    · exact fun _ _ _ _ S h => S.rowV h
    · exact fun _ => rfl
    · exact fun x z H3 _ _ _ kf hk => hk _ (Same.refl _)
    · intro x z H3 D acc hx _ _ S3 S3' hD kf hk
      have hx' := hx
      obtain ⟨u1, w1, r1, rfl, g1, gb⟩ := (SG.trans S3).item hx
      refine ⟨_, rfl, _, _, _, _, _, rfl, g1, (kcl_Item T).cl, no_Item_box T, itF_box, _, rfl, r1, q, z.box, b, rfl, gb, S3.box hq, _, rfl, _, _, _, _, _, rfl, g1, (kcl_Item T).cl, no_Item_number T, itF_number, _, rfl, by show 4 ≤ sizeLine; decide, fun u hu => hk _ _ (Same.upd hu) ⟨u, _, rfl, off_at upd_same (ne_of_none hD hu).symm, .inr ⟨z, rfl, rfl, hx'⟩⟩⟩
    · intro D H3 ys hD S3 hl hys
      rw [List.filter_eq_self.mpr fun _ _ => rfl] at hys
      exact k D ys H3 hD S3 hl (Paired.mapR (Paired.impl (fun _ _ h => off_same.rowV h) hys))
  | node ch =>
    obtain ⟨m, rfl, hk⟩ := hk
    rw [decide_eq_false (fun z => by injection z with z; omega)]
    refine iteF ⟨_, rfl, _, _, _, _, _, rfl, SG _ _ ta.node, (kcl_Node T).cl, no_Node_entries T, ndF_entries, e, xs, rfl, .inl (.inl (SG _ _ ta.list)), ?_⟩
    refine lc_enum (R0 := fun x c => TreeV K G m x c ∧ Ent K G x c.box) ch (fun _ => true) (fun H' u z => RowV K G H' u ⟨Kvg6.squaredDistance z.1.box b, 0, time + (z.2 : Int), .inl (m, z.1)⟩) (ent_box hk ta.ents) ?_ ?_ ?_ ?_ ?_ ?_ ?_
    · exact fun H2 S3 => .inl (.inl (S3 _ _ (SG _ _ ta.list)))
    · exact Nat.lt_of_le_of_lt h4 (by decide)
    · exact fun _ _ _ _ S h => S.rowV h
    · exact fun _ _ => rfl
    · exact fun _ x z H3 _ _ _ kf hk => hk _ (Same.refl _)
    · intro j x z H3 D acc hj hx _ S3 S3' hD kf hk
      obtain ⟨hx1, hx2⟩ := hx
      obtain ⟨a1, C1, d1, f1, q1, rfl, h1, c1, n1, l1, b1⟩ := ent_fld T ((SG.trans S3).ent hx2)
      refine ⟨_, rfl, _, _, _, _, _, rfl, h1, c1, n1, l1, _, rfl, q1, q, z.box, b, rfl, b1, S3.box hq, _, rfl, _, rfl, _, _, rfl, rfl, _, rfl, by show 4 ≤ sizeLine; decide, fun u hu => hk _ _ (Same.upd hu) ⟨u, _, rfl, off_at upd_same (ne_of_none hD hu).symm, .inl ⟨(m, z), rfl, rfl, hx1⟩⟩⟩
    · intro D H3 ys hD S3 hl hys
      rw [List.filter_eq_self.mpr fun _ _ => rfl] at hys
      exact k D ys H3 hD S3 hl (Paired.mapR (Paired.impl (fun _ _ h => off_same.rowV h) hys))
end
end BFW
namespace BF
open Kvg6
theorem near_start0 (b : Box) (k : Nat) : Near b k (0, []) 1 [] 1 0 [] := by
  refine ⟨1, [], by show 0 + 1 ≤ 1; omega, ⟨[], ⟨rfl, ?_, ?_, ?_, List.nodup_nil⟩, List.Perm.refl _, List.Pairwise.nil⟩, ?_⟩
  · intro i a b h; simp at h
  · intro i j a b a' b' _ h; simp at h
  · intro i a b h; simp at h
  · rw [nearestFrom.eq_def]
    dsimp only
    split <;> rfl
end BF
namespace BFW
open PySem PySem.Spec PyProof.Rows L2 BFH
open Kvg6 (Box Item)
open BF (BoxOk ItOk)
section
variable {P : Program} {w : World} {K : PySem.W.Frag} {mg : Str → Option Value} {base : Heap}
theorem tAndS_of {t u : TT} {σ : L2.St} {H : Hp} {Q : Bool → Hp → Prop} {b1 b2 : Bool} (h1 : ∀ k : Bool → Hp → Prop, k b1 H → t σ H k) (h2 : ∀ k : Bool → Hp → Prop, (∀ H2, Same H H2 → k b2 H2) → u σ H k) (hq : ∀ H2, Same H H2 → Q (b1 && b2) H2) : tAnd t u σ H Q := by
  refine h1 _ ?_
  cases b1 with
  | false => exact iteF (hq H (Same.refl H))
  | true => exact iteT (h2 _ hq)
/-- a tuple of a number and a distance -/
def PairD (H : Hp) (v : V) (z : Nat × Int) : Prop := ∃ q, v = .ref q ∧ H q = some (.tup [.int (z.1 : Int), .int z.2])
theorem _root_.L2.Same.pairD {H H' : Hp} {v : V} {z : Nat × Int} (S : Same H H') (h : PairD H v z) : PairD H' v z := by
  obtain ⟨q, e, h⟩ := h
  exact ⟨q, e, S _ _ h⟩
theorem PairD.updL {H : Hp} {v : V} {z : Nat × Int} {a : Addr} {l l' : List V} (h : PairD H v z) (ha : H a = some (.lst l)) : PairD (upd H a (.lst l')) v z := by
  obtain ⟨q, e, hq⟩ := h
  refine ⟨q, e, ?_⟩
  rw [upd_ne (fun z => by subst z; rw [ha] at hq; cases hq)]
  exact hq
def spNst (K : PySem.W.Frag) : Sp := fun vs H Q _ => ∃ (n : Nat) (v : V) (t : Kvg6.Tree) (q : Addr) (b : Box) (many : Int), vs = [v, .ref q, .int many] ∧ TreeV K H n v t ∧ BF.GoodAt n t ∧ BoxAt H q b ∧
  ∀ r p xs H', H r = none → H p = none → Same H H' → H' r = some (.tup [.int ((Kvg6.nearest t b many.toNat).1 : Nat), .ref p]) → H' p = some (.lst xs) → Paired (PairD H') xs (Kvg6.nearest t b many.toNat).2 → xs.length ≤ 400 → Q (.ref r) H'
theorem sc_nearest_search : FnScope ["root", "box", "many", "queue", "found", "visited", "time", "first", "entry", "row"] ["root", "box", "many"] (defScope s_nearest_search) := ⟨rfl, rfl, rfl, by decide +kernel, rfl, by decide +kernel, by decide +kernel⟩
theorem k_nearest_search (T : Tx K mg) : Kn P w K mg base "nearest_search" 3 ["root", "box", "many"] (spNst K) := by
  have F := T.fn1 63 (x := "nearest_search") (st := s_nearest_search) rfl
  have sc := sc_nearest_search
  let st : Stmt := s_nearest_search
  let nn : List Str := ["root", "box", "many", "queue", "found", "visited", "time", "first", "entry", "row"]
  refine ⟨F.ok sc (fun vs H Q E h => ?_) (fun cdv A outer s H vs Q E hr h => ?_), F.binds fun _ _ _ _ _ _ us hl => match us, hl with | [_, _, _], _ => rfl, F.kp, T.glo 50⟩

  · obtain ⟨n, v, t, q, b, many, rfl, _⟩ := h
    rfl
  obtain ⟨n, v, t, q, b, many, rfl, ht, hg, hq, k⟩ := h
  refine ⟨_, (pss_cons (ps_par (i := 3) (j := 4) rfl sc.nd rfl rfl (by decide) rfl rfl (pa_cons (kc (k_first_rows T) hr (pa_cons (pv 0) (pa_cons (pv 1) pa_nil))) (pa_cons (pe_lst pa_nil) pa_nil)) (by rfl))
      (pss_cons (ps_asg (pe_tup (pa_cons pe_int (pa_cons pe_int pa_nil))) (pg_tup rfl (pgs_cons (pg_name (i := 5) sc.nd rfl (Or.inl rfl)) (pgs_cons (pg_name (i := 6) sc.nd rfl (Or.inl rfl)) pgs_nil))))
      (pss_cons (ps_while PassesOwn.never (PW.pt (pw_and (pt_cmpR op_lt (pe_callB call_len_seq (by rfl) (T.free 91) PySem.boot_len (pa_cons (pv 4) pa_nil)) (pv 2) (nomark _)) (pw_and1 (pt_cmpR (op_neNil hr.units0) (pv 3) (pe_lst pa_nil) (nomark _))))) (pss_cons (ps_set (i := 7) sc.nd rfl (Or.inr rfl) (pe_callBK (cr_minKey (k_order T) hr) (by rfl) (T.free 93) boot_min (pa_cons (pv 3) pa_nil) (pk_cons (pe_glob (v := .ref (He.ga K "order")) rfl (T.glo 47) rfl) pk_nil)))
      (pss_cons (ps_setLc (i := 3) (own := [("row", 9)]) (g := gName 9) rfl sc.nd rfl rfl (sw_true rfl rfl rfl (by decide +kernel)) (pi_list (pv 3)) (blkOk_by (N := nn) (sc := defScope st) (by decide +kernel)) (fun _ _ _ _ _ => (pg_name (i := 9) sc.nd rfl (Or.inl rfl))) (fun _ _ _ _ _ => (pts_one (pt_cmpR (op_neDK (K := K) rfl hr.units) (kc (k_order T) hr (pa_cons (pv 9) pa_nil)) (kc (k_order T) hr (pa_cons (pv 7) pa_nil)) (nomark _)))) (fun _ _ _ _ _ => (pv 9)))
      (pss_cons (ps_set (i := 8) sc.nd rfl (Or.inl rfl) (pe_ix ix_tup (pv 7) pe_int (fun _ _ => rfl)))
      (pss_one (ps_if (pt_cmpR op_eq (pe_ix ix_tup (pv 7) pe_int (fun _ _ => rfl)) pe_int (nomark _)) (pss_one (ps_expr (pe_bm PySem.F.plainAttrs_list PySem.F.slot_list_append PySem.F.type_list_append mt_append (pv 4) (pa_cons (pe_tup (pa_cons (pe_fld (pv 8) rfl) (pa_cons (pe_ix ix_tup (pv 7) pe_int (fun _ _ => rfl)) pa_nil))) pa_nil)))) (pss_cons (ps_set (i := 5) sc.nd rfl (Or.inl rfl) (pe_op op_add (pv 5) pe_int))
      (pss_cons (ps_expr (pe_bm PySem.F.plainAttrs_list PySem.F.slot_list_extend PySem.F.type_list_extend mt_extend (pv 3) (pa_cons (kc (k_rows_for T) hr (pa_cons (pv 8) (pa_cons (pv 1) (pa_cons (pv 6) pa_nil)))) pa_nil)))
      (pss_one (ps_set (i := 6) sc.nd rfl (Or.inl rfl) (pe_op op_add (pv 6) (pe_callB call_len_seq (by rfl) (T.free 91) PySem.boot_len (pa_cons (pe_fld (pv 8) rfl) pa_nil)))))))))))))
      (pss_one (ps_ret (pe_tup (pa_cons (pv 5) (pa_cons (pv 4) pa_nil)))))))), ?_⟩
  generalize htot : Kvg6.nearest t b many.toNat = tot at *
  obtain ⟨st0, hst0, hN0⟩ : ∃ st0, st0 ≤ 400 ∧ BF.Near b many.toNat tot st0 (if t.items.isEmpty then [] else [⟨Kvg6.squaredDistance t.box b, 0, 0, .inl (n, t)⟩]) 1 0 [] := by
    cases c : t.items.isEmpty with
    | true =>
      rw [BF.near_empty b _ c] at htot
      subst htot
      exact ⟨1, by decide, BF.near_start0 b _⟩
    | false =>
      subst htot
      exact ⟨400, Nat.le_refl _, BF.near_start hg b _ c⟩
  refine ⟨_, rfl, _, rfl, n, v, t, q, b, rfl, ht, hg, hq, fun qa xs H1 hqa S1 hxs hp => ?_⟩
  refine ⟨Nat.zero_le _, fun fa hfa => ⟨_, _, rfl, ?_⟩⟩
  have S2 := Same.upd (o := .lst []) hfa
  have f2 := upd_same (H := H1) (a := fa) (o := .lst [])
  have q2 := S2 _ _ hxs
  have hp2 := Paired.impl (fun _ _ h => S2.rowV h) hp
  have hqf : qa ≠ fa := ne_of_none hxs hfa
  have hfa0 : H fa = none := S1.free hfa
  have S12 := S1.trans S2
  generalize upd H1 fa (.lst []) = H2 at *
  refine ⟨by show 2 ≤ sizeLine; decide, fun u hu => ⟨u, _, rfl, .inl (.inl upd_same), rfl, _, _, rfl, _, _, rfl, rfl, ?_⟩⟩
  have Su := Same.upd (o := .tup [.int 0, .int 1]) hu
  have f2 := Su _ _ f2
  have q2 := Su _ _ q2
  have hp2 := Paired.impl (fun _ _ h => Su.rowV h) hp2
  have S12 := S12.trans Su
  generalize upd H2 u (.tup [.int 0, .int 1]) = H3 at *
  refine ⟨fun mm σ H1 => ∃ (qa : Addr) (xs fs : List V) (qs : List BF.QE) (found : List (Nat × Int)) (vis : Nat) (time : Int) (o7 o8 : Option V), σ = [some v, some (.ref q), some (.int many), some (.ref qa), some (.ref fa), some (.int vis), some (.int time), o7, o8, none] ∧ Same H H1 ∧ H qa = none ∧ qa ≠ fa ∧ H1 qa = some (.lst xs) ∧ H1 fa = some (.lst fs) ∧ Paired (RowV K H H1) xs qs ∧ Paired (PairD H1) fs found ∧
    BF.Near b many.toNat tot mm qs time vis found ∧ found.length + mm ≤ 400, ⟨st0, qa, xs, [], _, [], 0, 1, none, none, rfl, S12, hqa, hqf, q2, f2, hp2, .nil, hN0, by show 0 + st0 ≤ 400; omega⟩, ?_⟩
  rintro mm σ H3 ⟨qb, ys, fs, qs, found, vis, time, o7, o8, rfl, S, hqb, hqf, hys, hfs, hp, hpf, hN, hle⟩
  have hfl := hpf.len
  have hyl := hp.len
  have hql := hN.len
  refine tAndS_of (b1 := decide ((fs.length : Int) < many)) (b2 := !ys.isEmpty) ?_ ?_ ?_
  · exact fun k hk => ⟨_, rfl, fa, fs, rfl, .inl (.inl (.inl hfs)), _, rfl, _, _, rfl, rfl, _, rfl, hk⟩
  · exact fun k hk => ⟨_, rfl, Nat.zero_le _, fun l hl => ⟨qb, l, ys, rfl, rfl, .inl (.inl (Same.upd hl _ _ hys)), upd_same, _, rfl, hk _ (Same.upd hl)⟩⟩
  intro H4 S4
  have hys4 := S4 _ _ hys
  have hfs4 := S4 _ _ hfs
  have hp4 := Paired.impl (fun _ _ h => S4.rowV h) hp
  have hpf4 := Paired.impl (fun _ _ h => S4.pairD h) hpf
  have ST := S.trans S4
  by_cases c : (decide ((fs.length : Int) < many) && !ys.isEmpty) = true
  · rw [c]
    rw [Bool.and_eq_true, decide_eq_true_eq] at c
    obtain ⟨c1, c2⟩ := c
    have hk : ¬ many.toNat ≤ found.length := by omega
    have hne : ys ≠ [] := fun z => by rw [z] at c2; simp at c2
    refine iteT ⟨fun σ' H' => ∃ m', m' < mm ∧ ∃ (qa : Addr) (xs fs : List V) (qs : List BF.QE) (found : List (Nat × Int)) (vis : Nat) (time : Int) (o7 o8 : Option V), σ' = [some v, some (.ref q), some (.int many), some (.ref qa), some (.ref fa), some (.int vis), some (.int time), o7, o8, none] ∧ Same H H' ∧ H qa = none ∧ qa ≠ fa ∧ H' qa = some (.lst xs) ∧ H' fa = some (.lst fs) ∧ Paired (RowV K H H') xs qs ∧ Paired (PairD H') fs found ∧
      BF.Near b many.toNat tot m' qs time vis found ∧ found.length + m' ≤ 400, fun σ' H' h => h, ?_⟩
    refine ⟨_, rfl, qb, ys, fun j => BF.qKey (qs.getD j ⟨0, 0, 0, .inl (0, .leaf [])⟩), rfl, rfl, hys4, hne, ?_, ?_⟩
    · intro i x H5 hx S5 Q5 hQ5
      obtain ⟨z, hz, q5, y5, rfl, hq5, _⟩ := hp4.get hx
      refine ⟨q5, _, _, _, y5, rfl, S5 _ _ hq5, fun u H6 S6 hu => hQ5 u H6 S6 ?_⟩
      have e : qs.getD i ⟨0, 0, 0, .inl (0, .leaf [])⟩ = z := by simp [hz]
      dsimp only
      rw [e]
      exact hu
    intro i x H5 hx hfst S5
    rw [hyl] at hfst
    obtain ⟨z, hz, q5, y5, rfl, hq5, hry⟩ := hp4.get hx
    have hp5 := Paired.impl (fun _ _ h => S5.rowV h) hp4
    have hpf5 := Paired.impl (fun _ _ h => S5.pairD h) hpf4
    have hys5 := S5 _ _ hys4
    have hfs5 := S5 _ _ hfs4
    have hq5' := S5 _ _ hq5
    have ST5 := ST.trans S5
    refine ⟨_, rfl, qb, rfl, ⟨_, .inl (.inl hys5)⟩, ?_⟩
    refine lc_li (R0 := RowV K H H5) qs (fun e => decide (BF.qKey e ≠ BF.qKey z)) (fun H' u e => RowV K H H' u e) hp5 ?_ ?_ ?_ ?_ ?_ ?_ ?_
    · exact fun H2 S3 => .inl (.inl (S3 _ _ hys5))
    · exact Nat.lt_of_le_of_lt (show ys.length ≤ 400 by omega) (by decide)
    · exact fun _ _ _ _ S h => S.rowV h
    · exact fun _ => rfl
    · intro x e H6 hx _ S6 kf hk
      obtain ⟨q6, y6, rfl, hq6, _⟩ := hx
      refine ⟨_, rfl, q6, _, _, _, y6, rfl, S6 _ _ hq6, fun u H7 S7 hu => ⟨_, rfl, q5, _, _, _, y5, rfl, S7 _ _ (S6 _ _ hq5'), fun u2 H8 S8 hu2 => ?_⟩⟩
      refine ⟨_, _, (S8.keyT hu).dp, hu2.dp, tD_shaped _, tD_shaped _, _, rfl, ?_⟩
      rw [tD_eqv]
      have := hk H8 (S7.trans S8)
      simpa using this
    · exact fun x e H6 D acc hx _ _ S6 S6' hD kf hk => ⟨_, rfl, hk _ _ (Same.refl _) ((S6'.rowV hx))⟩
    · intro D H6 zs hD S6 hl hzs
      have hz6 : Paired (RowV K H H6) zs (qs.filter fun e => decide (BF.qKey e ≠ BF.qKey z)) := Paired.impl (fun _ _ h => off_same.rowV h) hzs
      have ST6 := ST5.trans S6
      have hfs6 := S6 _ _ hfs5
      have hpf6 := Paired.impl (fun _ _ h => S6.pairD h) hpf5
      have hq6 := S6 _ _ hq5'
      have hDf : D ≠ fa := (ne_of_none hfs5 hD).symm
      have hD0 : H D = none := ST5.free hD
      have hzl : zs.length ≤ 400 := by
        rw [hz6.len]
        exact Nat.le_trans (List.length_filter_le _ _) (by omega)
      refine ⟨_, rfl, q5, _, _, _, rfl, rfl, .inl (.inl hq6), rfl, ?_⟩
      refine ⟨_, rfl, q5, _, _, _, rfl, rfl, .inl (.inl hq6), rfl, rfl, _, rfl, ?_⟩
      rcases hry with ⟨⟨m, t'⟩, ex, ek, hty⟩ | ⟨it, ex, ek, hit⟩
      · rw [ek, decide_eq_false (by decide)]
        have hty : TreeV K H m y5 t' := hty
        obtain ⟨p, dx, e, bv, es, rfl, ta⟩ := hty.at_
        refine iteF ⟨_, rfl, _, _, rfl, rfl, ?_⟩
        refine ⟨_, rfl, .inl ⟨rfl, _, .inl (.inl hl)⟩, _, rfl, _, rfl, _, rfl, m, _, t', q, b, time, H, rfl, ST6, hty, ST6.box hq, fun R rs H7 hR S7 hrs hpr => ?_⟩
        have h4 : rs.length ≤ 4 := by
          rw [hpr.len]
          have := ta.four
          have hk := ta.kids
          cases t' with
          | leaf items =>
            obtain ⟨rfl, hk⟩ := hk
            show (items.map _).length ≤ 4
            rw [List.length_map, ← hk.len]; exact this
          | node ch =>
            obtain ⟨j, rfl, hk⟩ := hk
            show (ch.zipIdx.map _).length ≤ 4
            rw [List.length_map, List.length_zipIdx, ← hk.len]; exact this
        have hl7 := S7 _ _ hl
        refine ⟨D, R, zs, rs, rfl, rfl, hl7, hrs, line_small (by omega), ?_⟩
        have ST7 := (ST6.trans S7).upd2 (o := .lst (zs ++ rs)) hD0
        refine ⟨_, rfl, _, rfl, _, _, _, _, _, rfl, ST7 _ _ ta.node, (kcl_Node T).cl, no_Node_entries T, ndF_entries, e, es, rfl, .inl (.inl (.inl (ST7 _ _ ta.list))), _, _, rfl, rfl, ?_⟩
        have hnear : BF.Near b many.toNat tot (mm - 1) ((qs.filter fun e => decide (BF.qKey e ≠ BF.qKey z)) ++ BF.rowsOf b time (m, t')) (time + (es.length : Int)) (vis + 1) found := by
          have hk2 := ta.kids
          cases t' with
          | leaf items =>
            exact BF.near_leaf hN hk hfst hz ex _ (by omega)
          | node ch =>
            obtain ⟨j, rfl, hk2⟩ := hk2
            rw [hk2.len]
            exact BF.near_node hN hk hfst hz ex
        refine ⟨mm - 1, by omega, D, zs ++ rs, fs, _, found, vis + 1, _, some (.ref q5), some (.ref p), ?_, ST7, hD0, hDf, upd_same, ?_, ?_, ?_, hnear, by omega⟩
        · rw [show (((vis + 1 : Nat) : Int)) = (vis : Int) + 1 by omega]
          rfl
        · rw [upd_ne hDf.symm]
          exact S7 _ _ hfs6
        · exact Paired.app (Paired.impl (fun _ _ h => (S7.rowV h).updL hl7) hz6) (Paired.impl (fun _ _ h => h.updL hl7) hpr)
        · exact Paired.impl (fun _ _ h => (S7.pairD h).updL hl7) hpf6
      · rw [ek, decide_eq_true (by decide)]
        have hit' := hit
        obtain ⟨u1, w1, r1, rfl, g1, gb⟩ := ST6.item hit
        refine iteT ⟨_, rfl, .inl ⟨rfl, _, .inl (.inl hfs6)⟩, _, rfl, _, _, _, _, _, rfl, g1, (kcl_Item T).cl, no_Item_number T, itF_number, _, rfl, q5, _, _, _, rfl, rfl, .inl (.inl hq6), rfl, by show 2 ≤ sizeLine; decide, fun u hu => ?_⟩
        have Su := Same.upd (o := .tup [.int (it.id : Int), .int z.d]) hu
        have hfs7 := Su _ _ hfs6
        refine ⟨fa, fs, .ref u, rfl, rfl, hfs7, Nat.lt_of_le_of_lt (show fs.length ≤ 400 by omega) (by decide), ?_⟩
        have hnear := BF.near_item hN hk hfst hz ex
        refine ⟨mm - 1, by omega, D, zs, fs ++ [.ref u], _, found ++ [(it.id, z.d)], vis, time, some (.ref q5), some (.ref u1), rfl, (ST6.trans Su).upd2 hfa0, hD0, hDf, ?_, upd_same, ?_, ?_, hnear, by rw [List.length_append, List.length_singleton]; omega⟩
        · rw [upd_ne hDf]
          exact Su _ _ hl
        · exact Paired.impl (fun _ _ h => (Su.rowV h).updL hfs7) hz6
        · refine Paired.app (Paired.impl (fun _ _ h => (Su.pairD h).updL hfs7) hpf6) (Paired.one (PairD.updL ⟨u, rfl, upd_same⟩ hfs7))
  · rw [show (decide ((fs.length : Int) < many) && !ys.isEmpty) = false by simpa using c]
    have hend := BF.near_end hN (by
      by_cases c1 : many.toNat ≤ found.length
      · exact .inl c1
      · refine .inr ?_
        cases qs with
        | nil => rfl
        | cons a r =>
          cases ys with
          | nil => simp at hyl
          | cons a' r' =>
            refine absurd ?_ c
            rw [decide_eq_true (by omega)]
            rfl)
    refine iteF ⟨_, rfl, _, rfl, by show 2 ≤ sizeLine; decide, fun r hr0 => ?_⟩
    have Sr := Same.upd (o := .tup [.int (vis : Nat), .ref fa]) hr0
    rw [← hend] at k
    exact k r fa fs _ (ST.free hr0) hfa0 (ST.trans Sr) upd_same (Sr _ _ hfs4) (Paired.impl (fun _ _ h => Sr.pairD h) hpf4) (by omega)
end
end BFW
namespace BFW
open PySem PySem.Spec PyProof.Rows L2 BFH
open Kvg6 (Box Item)
open BF (BoxOk ItOk)
/-- l[i], l a list -/
def rGetL (K : PySem.W.Frag) : V → V → Hp → VK → Prop := fun o i H Q => ∃ (p : Addr) (xs : List V) (k : Nat) (v : V), o = .ref p ∧ i = .int k ∧ SqL K H p xs ∧ xs[k]? = some v ∧ Q v H
theorem get_list {X : Cx} : PGet X (rGetL X.K) := by
  intro pins s σ H o i ov iv Q I ro ri h
  obtain ⟨p, xs, k, z, rfl, rfl, hq, he, q⟩ := h
  cases ro
  obtain ⟨t, rfl⟩ := ri
  obtain ⟨its, r, pl, hz⟩ := I.list hq
  obtain ⟨w, ew, rw'⟩ := r.get he
  have hk : k < xs.length := (List.getElem?_eq_some_iff.mp he).1
  have hn := line63
  exact wpAny_getItem_list pl.isList (by omega) (by omega) (by simpa using ew) ⟨z, H, I, rw', q⟩
section
variable {P : Program} {w : World} {K : PySem.W.Frag} {mg : Str → Option Value} {base : Heap}
def spPlace : Sp := fun vs H Q _ => ∃ (lo hi b e : Int) (size : Nat), vs = [.int lo, .int hi, .int b, .int e, .int size] ∧ b < e ∧ e - b < 4294967296 ∧ 1 ≤ size ∧ size ≤ 8 ∧ Q (.int (Kvg6.cellOf size b e (lo + hi))) H
theorem sc_place_in : FnScope ["low", "high", "begin", "end", "size", "place"] ["low", "high", "begin", "end", "size"] (defScope s_place_in) := ⟨rfl, rfl, rfl, by decide +kernel, rfl, by decide +kernel, by decide +kernel⟩
theorem k_place_in (T : Tx K mg) : Kn P w K mg base "place_in" 1 ["low", "high", "begin", "end", "size"] (spPlace) := by
  have F := T.fn1 54 (x := "place_in") (st := s_place_in) rfl
  have sc := sc_place_in
  let st : Stmt := s_place_in
  let nn : List Str := ["low", "high", "begin", "end", "size", "place"]
  refine ⟨F.ok sc (fun vs H Q E h => ?_) (fun cdv A outer s H vs Q E hr h => ?_), F.binds fun _ _ _ _ _ _ us hl => match us, hl with | [_, _, _, _, _], _ => rfl, F.kp, T.glo 41⟩

  · obtain ⟨lo, hi, b, e, size, rfl, _⟩ := h
    rfl
  obtain ⟨lo, hi, b, e, size, rfl, h1, h2, h3, h4, k⟩ := h
  refine ⟨_, (pss_cons (ps_set (i := 5) sc.nd rfl (Or.inl rfl) (pe_op op_fdivW (pe_op op_mul (pe_op op_sub (pe_op op_add (pv 0) (pv 1)) (pe_op op_mul pe_int (pv 2))) (pv 4)) (pe_op op_mul pe_int (pe_op op_sub (pv 3) (pv 2)))))
      (pss_one (ps_ret (pe_callB (call_min2 rfl) (by rfl) (T.free 93) boot_min (pa_cons (pe_callB (call_max2 rfl) (by rfl) (T.free 94) boot_max (pa_cons (pv 5) (pa_cons pe_int pa_nil))) (pa_cons (pe_op op_sub (pv 4) pe_int) pa_nil)))))), ?_⟩
  rw [BF.cellOf_eq _ _ _ h3] at k
  refine ⟨_, rfl, _, rfl, _, _, rfl, rfl, _, rfl, _, _, rfl, rfl, .inl (by omega), _, _, rfl, rfl, _, rfl, _, _, rfl, rfl, .inr (by omega), _, rfl, _, rfl, _, _, rfl, rfl, _, _, rfl, rfl, .inl (by omega), _, _, rfl, rfl, L2.wide_div (b := 64) (by omega) (by omega) (by omega) (by omega), ?_⟩
  refine ⟨_, rfl, _, _, rfl, _, rfl, _, _, rfl, rfl, _, _, rfl, ?_⟩
  rw [min_if, max_if]
  exact k
def spCov : Sp := fun vs H Q _ => ∃ (i : Nat) (lo hi : Int) (size : Nat) (w0 w1 : Int), vs = [.int i, .int lo, .int hi, .int size, .int w0, .int w1] ∧ i ≤ 64 ∧ size ≤ 8 ∧ Q (.int (BF.shN size lo hi w0 w1 i)) H
theorem sc_covered : FnScope ["place", "begin", "end", "size", "low", "high", "left"] ["place", "begin", "end", "size", "low", "high"] (defScope s_covered) := ⟨rfl, rfl, rfl, by decide +kernel, rfl, by decide +kernel, by decide +kernel⟩
theorem k_covered (T : Tx K mg) : Kn P w K mg base "covered" 1 ["place", "begin", "end", "size", "low", "high"] (spCov) := by
  have F := T.fn1 56 (x := "covered") (st := s_covered) rfl
  have sc := sc_covered
  let st : Stmt := s_covered
  let nn : List Str := ["place", "begin", "end", "size", "low", "high", "left"]
  refine ⟨F.ok sc (fun vs H Q E h => ?_) (fun cdv A outer s H vs Q E hr h => ?_), F.binds fun _ _ _ _ _ _ us hl => match us, hl with | [_, _, _, _, _, _], _ => rfl, F.kp, T.glo 43⟩

  · obtain ⟨i, lo, hi, size, w0, w1, rfl, _⟩ := h
    rfl
  obtain ⟨i, lo, hi, size, w0, w1, rfl, h1, h2, k⟩ := h
  refine ⟨_, (pss_cons (ps_set (i := 6) sc.nd rfl (Or.inl rfl) (pe_op op_add (pe_op op_mul (pv 3) (pv 1)) (pe_op op_mul (pv 0) (pe_op op_sub (pv 2) (pv 1)))))
      (pss_one (ps_ret (pe_callB (call_max2 rfl) (by rfl) (T.free 94) boot_max (pa_cons pe_int (pa_cons (pe_op op_sub (pe_callB (call_min2 rfl) (by rfl) (T.free 93) boot_min (pa_cons (pe_op op_mul (pv 3) (pv 5)) (pa_cons (pe_op op_sub (pe_op op_add (pv 6) (pv 2)) (pv 1)) pa_nil))) (pe_callB (call_max2 rfl) (by rfl) (T.free 94) boot_max (pa_cons (pe_op op_mul (pv 3) (pv 4)) (pa_cons (pv 6) pa_nil)))) pa_nil)))))), ?_⟩
  refine ⟨_, rfl, _, rfl, _, _, rfl, rfl, .inl (by omega), _, rfl, _, rfl, _, rfl, _, _, rfl, rfl, _, _, rfl, rfl, .inl (by omega), _, _, rfl, rfl, ?_⟩
  refine ⟨_, rfl, _, rfl, _, _, rfl, rfl, .inl (by omega), _, rfl, _, rfl, _, _, rfl, rfl, _, rfl, _, _, rfl, rfl, _, _, rfl, _, rfl, _, rfl, _, _, rfl, rfl, .inl (by omega), _, rfl, _, _, rfl, _, _, rfl, rfl, _, _, rfl, ?_⟩
  unfold BF.shN at k
  rw [max_if, max_if, min_if]
  have e1 : lo * (size : Int) + (hi - lo) * ((i + 1 : Nat) : Int) = (size : Int) * lo + (i : Int) * (hi - lo) + hi - lo := by
    rw [Int.natCast_add, Int.mul_add, Int.mul_comm lo, Int.mul_comm (hi - lo) (i : Int)]; simp; omega
  rw [e1, Int.mul_comm lo, Int.mul_comm (hi - lo) (i : Int), Int.mul_comm w1, Int.mul_comm w0] at k
  rw [Int.min_comm, Int.max_comm ((size : Int) * w0)]
  exact k
def spGcd : Sp := fun vs H Q _ => ∃ (a b : Int), vs = [.int a, .int b] ∧ 0 ≤ a ∧ 0 < b ∧ Q (.int (Int.gcd a b)) H
theorem sc_common_divisor : FnScope ["one", "other"] ["one", "other"] (defScope s_common_divisor) := ⟨rfl, rfl, rfl, by decide +kernel, rfl, by decide +kernel, by decide +kernel⟩
theorem k_common_divisor (T : Tx K mg) : Kn P w K mg base "common_divisor" 1 ["one", "other"] (spGcd) := by
  have F := T.fn1 57 (x := "common_divisor") (st := s_common_divisor) rfl
  have sc := sc_common_divisor
  let st : Stmt := s_common_divisor
  let nn : List Str := ["one", "other"]
  refine ⟨F.ok sc (fun vs H Q E h => ?_) (fun cdv A outer s H vs Q E hr h => ?_), F.binds fun _ _ _ _ _ _ us hl => match us, hl with | [_, _], _ => rfl, F.kp, T.glo 44⟩

  · obtain ⟨a, b, rfl, _⟩ := h
    rfl
  obtain ⟨a, b, rfl, h1, h2, k⟩ := h
  refine ⟨_, (pss_cons (ps_while PassesOwn.never (pt_cmpR op_ne (pv 0) pe_int (nomark _)) (pss_one (ps_par (i := 0) (j := 1) rfl sc.nd rfl rfl (by decide) rfl rfl (pa_cons (pe_op op_modN (pv 1) (pv 0)) (pa_cons (pv 0) pa_nil)) (by rfl))))
      (pss_one (ps_ret (pv 1)))), ?_⟩
  refine ⟨fun m σ H1 => ∃ (x y : Int), σ = [some (.int x), some (.int y)] ∧ m = x.natAbs ∧ H1 = H ∧ 0 ≤ x ∧ 0 < y ∧ Int.gcd x y = Int.gcd a b, ⟨_, a, b, rfl, rfl, rfl, h1, h2, rfl⟩, ?_⟩
  rintro m σ H1 ⟨x, y, rfl, rfl, rfl, hx, hy, hg⟩
  refine ⟨_, rfl, rfl, _, rfl, ?_⟩
  by_cases c : x = 0
  · subst c
    rw [decide_eq_true (by rfl)]
    refine iteF ⟨_, rfl, ?_⟩
    rw [← hg, Int.gcd_zero_left] at k
    rw [show ((y.natAbs : Nat) : Int) = y by omega] at k
    exact k
  · rw [decide_eq_false (fun z => c (by injection z))]
    refine iteT ⟨fun σ' H' => ∃ m', m' < x.natAbs ∧ ∃ (x y : Int), σ' = [some (.int x), some (.int y)] ∧ m' = x.natAbs ∧ H' = H1 ∧ 0 ≤ x ∧ 0 < y ∧ Int.gcd x y = Int.gcd a b, fun σ' H' h => h, ?_⟩
    have h3 : y.fmod x = y % x := Int.fmod_eq_emod_of_nonneg y hx
    have h4 := Int.emod_nonneg y c
    have h5 := Int.emod_lt_of_pos y (show 0 < x by omega)
    refine ⟨_, rfl, _, rfl, _, _, rfl, rfl, c, _, rfl, _, _, rfl, ?_⟩
    refine ⟨(y.fmod x).natAbs, by omega, y.fmod x, x, rfl, rfl, rfl, by omega, by omega, ?_⟩
    rw [← hg, h3]
    obtain ⟨m, rfl⟩ := Int.eq_ofNat_of_zero_le hx
    obtain ⟨n, rfl⟩ := Int.eq_ofNat_of_zero_le (Int.le_of_lt hy)
    rw [← Int.natCast_emod, Int.gcd_natCast_natCast, Int.gcd_natCast_natCast]
    exact (Nat.gcd_rec m n).symm
end
end BFW
namespace BFW
open PySem PySem.Spec PyProof.Rows L2 BFH
open Kvg6 (Box Item)
open BF (BoxOk ItOk)
section
variable {P : Program} {w : World} {K : PySem.W.Frag} {mg : Str → Option Value} {base : Heap}
abbrev nV (n : Nat) : V := .int (n : Int)
theorem nV_ints (l : List Nat) : (l.map fun n : Nat => (n : Int)).map V.int = l.map nV := by
  rw [List.map_map]
  rfl
def spHist (K : PySem.W.Frag) : Sp := fun vs H Q _ => ∃ (a q : Addr) (xs : List V) (items : List Item) (size : Nat) (e : Box), vs = [.ref a, .int size, .ref q] ∧ H a = some (.lst xs) ∧ Paired (ItemAt K H) xs items ∧ BoxAt H q e ∧ 1 ≤ size ∧ size ≤ 8 ∧ e.x0 < e.x1 ∧ e.y0 < e.y1 ∧
  NewInts H ((Kvg6.histogram items size e).map fun n : Nat => (n : Int)) Q
theorem sc_histogram : FnScope ["items", "size", "extent", "found", "item", "column", "row"] ["items", "size", "extent"] (defScope s_histogram) := ⟨rfl, rfl, rfl, by decide +kernel, rfl, by decide +kernel, by decide +kernel⟩
theorem k_histogram (T : Tx K mg) : Kn P w K mg base "histogram" 2 ["items", "size", "extent"] (spHist K) := by
  have F := T.fn1 55 (x := "histogram") (st := s_histogram) rfl
  have sc := sc_histogram
  let st : Stmt := s_histogram
  let nn : List Str := ["items", "size", "extent", "found", "item", "column", "row"]
  refine ⟨F.ok sc (fun vs H Q E h => ?_) (fun cdv A outer s H vs Q E hr h => ?_), F.binds fun _ _ _ _ _ _ us hl => match us, hl with | [_, _, _], _ => rfl, F.kp, T.glo 42⟩

  · obtain ⟨a, q, xs, items, size, e, rfl, _⟩ := h
    rfl
  obtain ⟨a, q, xs, items, size, e, rfl, ha, hp, hq, h1, h2, h3, h4, k⟩ := h
  refine ⟨_, (pss_cons (ps_set (i := 3) sc.nd rfl (Or.inl rfl) (pe_op op_rep (pe_lst (pa_cons pe_int pa_nil)) (pe_op op_mul (pv 1) (pv 1))))
      (pss_cons (ps_for PassesOwn.never rfl (pi_list (pv 0)) (pg_name (i := 4) sc.nd rfl (Or.inl rfl)) (pss_cons (ps_set (i := 5) sc.nd rfl (Or.inl rfl) (kc (k_place_in T) hr (pa_cons (pe_ix ix_tup (pe_fld (pv 4) rfl) pe_int (fun _ _ => rfl)) (pa_cons (pe_ix ix_tup (pe_fld (pv 4) rfl) pe_int (fun _ _ => rfl)) (pa_cons (pe_ix ix_tup (pv 2) pe_int (fun _ _ => rfl)) (pa_cons (pe_ix ix_tup (pv 2) pe_int (fun _ _ => rfl)) (pa_cons (pv 1) pa_nil)))))))
      (pss_cons (ps_set (i := 6) sc.nd rfl (Or.inl rfl) (kc (k_place_in T) hr (pa_cons (pe_ix ix_tup (pe_fld (pv 4) rfl) pe_int (fun _ _ => rfl)) (pa_cons (pe_ix ix_tup (pe_fld (pv 4) rfl) pe_int (fun _ _ => rfl)) (pa_cons (pe_ix ix_tup (pv 2) pe_int (fun _ _ => rfl)) (pa_cons (pe_ix ix_tup (pv 2) pe_int (fun _ _ => rfl)) (pa_cons (pv 1) pa_nil)))))))
      (pss_one (ps_augS (pv 3) (pe_op op_add (pe_op op_mul (pv 6) (pv 1)) (pv 5)) get_list pe_int ip_add set_list)))))
      (pss_one (ps_ret (pv 3))))), ?_⟩
  have hsq : size * size ≤ 64 := Nat.mul_le_mul h2 h2
  obtain ⟨⟨b1, b2, b3⟩, b4, b5, b6⟩ := hq.2
  refine ⟨by show 1 ≤ sizeLine; decide, fun l hl => ?_⟩
  have S1 := Same.upd (o := .lst [.int 0]) hl
  have hl1 := upd_same (H := H) (a := l) (o := .lst [.int 0])
  generalize upd H l (.lst [.int 0]) = H1 at *
  have esz : ((size : Int) * (size : Int)) = ((size * size : Nat) : Int) := by rw [Int.natCast_mul]
  refine ⟨_, rfl, _, rfl, _, _, rfl, rfl, .inl (by omega), l, _, _, rfl, rfl, hl1, by omega, by omega, ?_, fun f hf => ?_⟩
  · rw [esz, Int.toNat_natCast]
    exact line_small (by simp; omega)
  have er : (List.replicate ((size : Int) * (size : Int)).toNat [V.int 0]).flatten = (Kvg6.histogram [] size e).map nV := by
    rw [esz, Int.toNat_natCast, BF.hist_nil e h1, List.map_replicate, List.flatten_replicate_singleton]
    rfl
  rw [er]
  have S2 := Same.upd (o := .lst ((Kvg6.histogram [] size e).map nV)) hf
  have S12 := S1.trans S2
  have hf0 : H f = none := S1.free hf
  have f2 := upd_same (H := H1) (a := f) (o := .lst ((Kvg6.histogram [] size e).map nV))
  generalize upd H1 f (.lst ((Kvg6.histogram [] size e).map nV)) = H2 at *
  refine ⟨_, rfl, a, rfl, ⟨_, .inl (.inl (S12 _ _ ha))⟩, ?_⟩
  refine for_list (xs := xs) (fun i σ H3 => ∃ o4 o5 o6, σ = [some (.ref a), some (.int size), some (.ref q), some (.ref f), o4, o5, o6] ∧ Same H H3 ∧ H3 f = some (.lst ((Kvg6.histogram (items.take i) size e).map nV))) ?_ ?_ ?_ ?_
  · exact ⟨_, _, _, rfl, S12, by rw [List.take_zero]; exact f2⟩
  · rintro i σ H3 _ ⟨o4, o5, o6, rfl, S, hf⟩
    exact .inl (.inl (S _ _ ha))
  · rintro i x σ H3 hx ⟨o4, o5, o6, rfl, S, hf⟩
    obtain ⟨it, hit, hxi⟩ := hp.get hx
    obtain ⟨u1, w1, r1, rfl, g1, gb⟩ := S.item hxi
    have hq3 := (S.box hq).1
    refine ⟨_, rfl, _, _, _, _, _, rfl, g1, (kcl_Item T).cl, no_Item_box T, itF_box, _, _, _, _, rfl, rfl, .inl (.inl gb.1), rfl, _, rfl, _, _, _, _, _, rfl, g1, (kcl_Item T).cl, no_Item_box T, itF_box, _, _, _, _, rfl, rfl, .inl (.inl gb.1), rfl, _, rfl, _, _, _, _, rfl, rfl, .inl (.inl hq3), rfl, _, rfl, _, _, _, _, rfl, rfl, .inl (.inl hq3), rfl, _, rfl, it.box.x0, it.box.x1, e.x0, e.x1, size, rfl, h3, by omega, h1, h2, ?_⟩
    refine ⟨_, rfl, _, _, _, _, _, rfl, g1, (kcl_Item T).cl, no_Item_box T, itF_box, _, _, _, _, rfl, rfl, .inl (.inl gb.1), rfl, _, rfl, _, _, _, _, _, rfl, g1, (kcl_Item T).cl, no_Item_box T, itF_box, _, _, _, _, rfl, rfl, .inl (.inl gb.1), rfl, _, rfl, _, _, _, _, rfl, rfl, .inl (.inl hq3), rfl, _, rfl, _, _, _, _, rfl, rfl, .inl (.inl hq3), rfl, _, rfl, it.box.y0, it.box.y1, e.y0, e.y1, size, rfl, h4, by omega, h1, h2, ?_⟩
    have hc := BF.cellIx_lt e it h1
    have hcell : ((Kvg6.cellOf size e.y0 e.y1 (it.box.y0 + it.box.y1) : Int) * (size : Int) + (Kvg6.cellOf size e.x0 e.x1 (it.box.x0 + it.box.x1) : Int)) = ((BF.cellIx size e it : Nat) : Int) := by
      unfold BF.cellIx
      rw [Int.natCast_add, Int.natCast_mul]
    have hlen := BF.hist_len (items.take i) size e
    have hget : ((Kvg6.histogram (items.take i) size e).map nV)[BF.cellIx size e it]? = some (nV ((Kvg6.histogram (items.take i) size e).getD (BF.cellIx size e it) 0)) := by
      rw [List.getElem?_map, List.getD_eq_getElem?_getD, List.getElem?_eq_getElem (by omega)]
      rfl
    refine ⟨_, rfl, _, rfl, _, rfl, _, _, rfl, rfl, .inr (by omega), _, rfl, _, _, rfl, rfl, f, _, BF.cellIx size e it, _, rfl, congrArg V.int hcell, .inl (.inl hf), hget, _, _, rfl, rfl, f, _, ((BF.cellIx size e it : Nat) : Int), BF.cellIx size e it, rfl, congrArg V.int hcell, hf, ?_, ?_⟩
    · unfold ixN
      rw [List.length_map, hlen, if_pos (by omega), if_pos (by omega), Int.toNat_natCast]
    · refine ⟨_, _, _, rfl, S.upd2 hf0, ?_⟩
      have htk : items.take (i + 1) = items.take i ++ [it] := by
        rw [List.take_add_one, hit]
        rfl
      rw [upd_same, htk, BF.hist_snoc _ _ e h1, List.map_set]
      rfl
  · rintro σ H3 ⟨o4, o5, o6, rfl, S, hf⟩
    rw [hp.len, List.take_length] at hf
    exact ⟨_, rfl, k f H3 hf0 S (by rw [nV_ints]; exact hf)⟩
def spEst (K : PySem.W.Frag) : Sp := fun vs H Q _ => ∃ (a q r : Addr) (items : List Item) (size : Nat) (e wd : Box), vs = [.ref a, .int size, .ref q, .ref r] ∧ H a = some (.lst ((Kvg6.histogram items size e).map nV)) ∧ BoxAt H q e ∧ BoxAt H r wd ∧ items.length ≤ 48 ∧ 1 ≤ size ∧ size ≤ 8 ∧ e.x0 < e.x1 ∧ e.y0 < e.y1 ∧
  ∀ p H', H p = none → Same H H' → H' p = some (.tup [.int (Kvg6.estimate items size e wd).num, .int ((Kvg6.estimate items size e wd).den : Nat)]) → Q (.ref p) H'
theorem sc_estimate : FnScope ["numbers", "size", "extent", "window", "top", "cell", "number", "width", "height", "bottom", "common"] ["numbers", "size", "extent", "window"] (defScope s_estimate) := ⟨rfl, rfl, rfl, by decide +kernel, rfl, by decide +kernel, by decide +kernel⟩
theorem k_estimate (T : Tx K mg) : Kn P w K mg base "estimate" 2 ["numbers", "size", "extent", "window"] (spEst K) := by
  have F := T.fn1 58 (x := "estimate") (st := s_estimate) rfl
  have sc := sc_estimate
  let st : Stmt := s_estimate
  let nn : List Str := ["numbers", "size", "extent", "window", "top", "cell", "number", "width", "height", "bottom", "common"]
  refine ⟨F.ok sc (fun vs H Q E h => ?_) (fun cdv A outer s H vs Q E hr h => ?_), F.binds fun _ _ _ _ _ _ us hl => match us, hl with | [_, _, _, _], _ => rfl, F.kp, T.glo 45⟩

  · obtain ⟨a, q, r, items, size, e, wd, rfl, _⟩ := h
    rfl
  obtain ⟨a, q, r, items, size, e, wd, rfl, ha, hq, hr', hle, h1, h2, h3, h4, k⟩ := h
  refine ⟨_, (pss_cons (ps_set (i := 4) sc.nd rfl (Or.inl rfl) pe_int)
      (pss_cons (ps_for PassesOwn.never rfl (pi_enum (by rfl) (T.free 102) (pa_cons (pv 0) pa_nil)) (pg_tup rfl (pgs_cons (pg_name (i := 5) sc.nd rfl (Or.inl rfl)) (pgs_cons (pg_name (i := 6) sc.nd rfl (Or.inl rfl)) pgs_nil))) (pss_cons (ps_set (i := 7) sc.nd rfl (Or.inl rfl) (kc (k_covered T) hr (pa_cons (pe_op op_modN (pv 5) (pv 1)) (pa_cons (pe_ix ix_tup (pv 2) pe_int (fun _ _ => rfl)) (pa_cons (pe_ix ix_tup (pv 2) pe_int (fun _ _ => rfl)) (pa_cons (pv 1) (pa_cons (pe_ix ix_tup (pv 3) pe_int (fun _ _ => rfl)) (pa_cons (pe_ix ix_tup (pv 3) pe_int (fun _ _ => rfl)) pa_nil))))))))
      (pss_cons (ps_set (i := 8) sc.nd rfl (Or.inl rfl) (kc (k_covered T) hr (pa_cons (pe_op op_fdivW (pv 5) (pv 1)) (pa_cons (pe_ix ix_tup (pv 2) pe_int (fun _ _ => rfl)) (pa_cons (pe_ix ix_tup (pv 2) pe_int (fun _ _ => rfl)) (pa_cons (pv 1) (pa_cons (pe_ix ix_tup (pv 3) pe_int (fun _ _ => rfl)) (pa_cons (pe_ix ix_tup (pv 3) pe_int (fun _ _ => rfl)) pa_nil))))))))
      (pss_one (ps_set (i := 4) sc.nd rfl (Or.inl rfl) (pe_op op_add (pv 4) (pe_op op_mul (pe_op op_mul (pv 6) (pv 7)) (pv 8))))))))
      (pss_cons (ps_set (i := 9) sc.nd rfl (Or.inl rfl) (pe_op op_mul (pe_op op_sub (pe_ix ix_tup (pv 2) pe_int (fun _ _ => rfl)) (pe_ix ix_tup (pv 2) pe_int (fun _ _ => rfl))) (pe_op op_sub (pe_ix ix_tup (pv 2) pe_int (fun _ _ => rfl)) (pe_ix ix_tup (pv 2) pe_int (fun _ _ => rfl)))))
      (pss_cons (ps_set (i := 10) sc.nd rfl (Or.inl rfl) (kc (k_common_divisor T) hr (pa_cons (pv 4) (pa_cons (pv 9) pa_nil))))
      (pss_one (ps_ret (pe_tup (pa_cons (pe_op op_fdivW (pv 4) (pv 10)) (pa_cons (pe_op op_fdivW (pv 9) (pv 10)) pa_nil))))))))), ?_⟩
  obtain ⟨⟨b1, b2, b3⟩, b4, b5, b6⟩ := hq.2
  have hsq : size * size ≤ 64 := Nat.mul_le_mul h2 h2
  generalize hh : Kvg6.histogram items size e = hs at *
  have hhl : hs.length = size * size := by rw [← hh]; exact BF.hist_len ..
  refine ⟨_, rfl, a, _, rfl, .inl (.inl ha), ?_⟩
  refine for_it (walk_enum (xs := hs.map nV)) (fun i σ H3 => ∃ o5 o6 o7 o8, σ = [some (.ref a), some (.int size), some (.ref q), some (.ref r), some (.int (BF.topSum size e wd (hs.zipIdx.take i))), o5, o6, o7, o8, none, none] ∧ Same H H3) ?_ ?_ ?_ ?_
  · exact ⟨_, _, _, _, rfl, Same.refl H⟩
  · rintro i σ H3 _ ⟨o5, o6, o7, o8, rfl, S⟩
    exact .inl (.inl (S _ _ ha))
  · rintro i x σ H3 H4 hi ⟨o5, o6, o7, o8, rfl, S⟩ ⟨U, x1, y1, rfl, hU, rfl, e1, e2⟩
    cases e1
    have S4 := S.trans (Same.upd (o := .tup [.int (i : Nat), y1]) hU)
    have e2 : (hs.map nV)[i]? = some y1 := e2
    rw [List.getElem?_map] at e2
    obtain ⟨n, hn, rfl⟩ := Option.map_eq_some_iff.mp e2
    have hn48 : n ≤ 48 := by
      have := BF.hist_le items size e n (by rw [hh]; exact List.mem_of_getElem? hn)
      omega
    have hil : i < hs.length := (List.getElem?_eq_some_iff.mp hn).1
    refine ⟨U, _, rfl, .inl (.inl upd_same), rfl, _, _, rfl, _, _, rfl, rfl, ?_⟩
    generalize upd H3 U (.tup [.int (i : Nat), nV n]) = H4 at *
    have hq3 := (S4.box hq).1
    have hr3 := (S4.box hr').1
    have em : ((i : Int).fmod (size : Int)) = ((i % size : Nat) : Int) := by
      rw [Int.fmod_eq_emod_of_nonneg _ (by omega), Int.natCast_emod]
    have ed : ((i : Int) / (size : Int)) = ((i / size : Nat) : Int) := by
      rw [Int.natCast_ediv]
    have hm := Nat.mod_lt i (show 0 < size by omega)
    have hd : i / size ≤ 64 := Nat.le_trans (Nat.div_le_self i size) (by omega)
    refine ⟨_, rfl, _, rfl, _, _, rfl, rfl, by omega, _, rfl, _, _, _, _, rfl, rfl, .inl (.inl hq3), rfl, _, rfl, _, _, _, _, rfl, rfl, .inl (.inl hq3), rfl, _, rfl, _, rfl, _, _, _, _, rfl, rfl, .inl (.inl hr3), rfl, _, rfl, _, _, _, _, rfl, rfl, .inl (.inl hr3), rfl, i % size, e.x0, e.x1, size, wd.x0, wd.x1, by simp only [em, List.append_nil], by omega, h2, ?_⟩
    refine ⟨_, rfl, _, rfl, _, _, rfl, rfl, L2.wide_div (b := 64) (by omega) (by omega) (by omega) (by omega), _, rfl, _, _, _, _, rfl, rfl, .inl (.inl hq3), rfl, _, rfl, _, _, _, _, rfl, rfl, .inl (.inl hq3), rfl, _, rfl, _, rfl, _, _, _, _, rfl, rfl, .inl (.inl hr3), rfl, _, rfl, _, _, _, _, rfl, rfl, .inl (.inl hr3), rfl, i / size, e.y0, e.y1, size, wd.y0, wd.y1, by simp only [ed, List.append_nil], hd, h2, ?_⟩
    have s1 := BF.shN_nn size e.y0 e.y1 wd.y0 wd.y1 (i / size)
    have s2 := BF.shN_le size wd.y0 wd.y1 (i / size) h4
    refine ⟨_, rfl, _, rfl, _, rfl, _, _, rfl, rfl, .inl (by omega), _, rfl, _, _, rfl, rfl, .inr (by omega), _, _, rfl, rfl, ?_⟩
    have htk : hs.zipIdx.take (i + 1) = hs.zipIdx.take i ++ [(n, i)] := by
      rw [List.take_add_one, BF.getElem?_zipIdx', hn]
      rfl
    refine ⟨some (.int (i : Nat)), some (nV n), some (.int (BF.shN size e.x0 e.x1 wd.x0 wd.x1 (i % size))), some (.int (BF.shN size e.y0 e.y1 wd.y0 wd.y1 (i / size))), ?_, S4⟩
    rw [htk, BF.topSum_snoc]
    rfl
  · rintro σ H3 ⟨o5, o6, o7, o8, rfl, S⟩
    rw [show (hs.map nV).length = hs.zipIdx.length by simp, List.take_length]
    have hq3 := (S.box hq).1
    have hb : 0 < (e.x1 - e.x0) * (e.y1 - e.y0) := Int.mul_pos (by omega) (by omega)
    have ht := BF.topSum_nn size e wd hs.zipIdx
    obtain ⟨n1, n2⟩ := BF.est_num (w := wd) items (by rw [hh]) rfl hb
    generalize htop : BF.topSum size e wd hs.zipIdx = top at *
    generalize hbot : (e.x1 - e.x0) * (e.y1 - e.y0) = bot at *
    have hbb : bot < 2 ^ 63 := by
      rw [← hbot]
      have := Int.mul_le_mul (show e.x1 - e.x0 ≤ 2147483647 by omega) (show e.y1 - e.y0 ≤ 2147483647 by omega) (by omega) (by omega)
      omega
    have hg1 : (Int.gcd top bot : Int) ≤ bot := Int.le_of_dvd hb (Int.gcd_dvd_right ..)
    have hg0 : (0 : Int) < (Int.gcd top bot : Int) := by
      have := Int.gcd_pos_of_ne_zero_right top (show bot ≠ 0 by omega)
      omega
    refine ⟨_, rfl, _, _, _, _, rfl, rfl, .inl (.inl hq3), rfl, _, rfl, _, _, _, _, rfl, rfl, .inl (.inl hq3), rfl, _, _, rfl, rfl, _, rfl, _, _, _, _, rfl, rfl, .inl (.inl hq3), rfl, _, rfl, _, _, _, _, rfl, rfl, .inl (.inl hq3), rfl, _, _, rfl, rfl, _, _, rfl, rfl, .inl (by omega), ?_⟩
    dsimp only
    rw [hbot]
    refine ⟨_, rfl, _, rfl, top, bot, rfl, ht, hb, ?_⟩
    refine ⟨_, rfl, _, rfl, _, _, rfl, rfl, L2.wide_div (b := 64) hg0 (by omega) (by omega) (by omega), _, rfl, _, rfl, _, _, rfl, rfl, L2.wide_div (b := 64) hg0 (by omega) (by omega) (by omega), by show 2 ≤ sizeLine; decide, fun p hp => ?_⟩
    refine k p _ (S.free hp) (S.trans (Same.upd hp)) ?_
    rw [upd_same, n1, n2]
end
end BFW
namespace BFW
open PySem PySem.Spec PyProof.Rows L2 BFH
theorem meets_extT (l : Addr) (items : Array Value) (n : Nat) (b : Addr) (items2 : Array Value) (hs0 : ¬(!items.isEmpty && Builtin.List.listTooLong (items.size + items2.size)) = true) (hs1 : items.size ≤ sizeLine) (hs2 : items.size + items2.size ≤ sizeLine + 1) :
    Meets (Builtin.«list.extend» ⟨[.ref l, .ref b], []⟩) (fun _ R s => s.heap.get? l = some { cls := .type "list", dict := none, data := .seq items n, slots := #[] } ∧ PyProof.Rows.IsTup s.heap b items2 ∧ R (.ok (.ret Value.none)) { s with heap := s.heap.update l (Obj.mapSeq fun x => x ++ items2), toks := s.toks }) :=
  .of_wp fun prog w A R s h => by
    obtain ⟨hl, ⟨o, ho, hc, n2, hd⟩, h⟩ := h
    show wpAny _ A.in1 (Builtin.List.listExtendWith (.ref l) (.ref b) .none) _ _ s
    unfold Builtin.List.listExtendWith
    refine wpAny_bind (wpAny_typeOf ⟨o, ho, hc⟩ ?_)
    have h1 : (Builtin.List.listSameRef (.ref l) (.ref b) || Value.type "tuple" == Value.type "list" || Value.type "tuple" == Value.type "tuple") = true := by simp
    simp only [h1, if_true]
    refine wpAny_bind ?_
    unfold Builtin.List.listItems
    refine wpAny_bind (wpAny_seqItems ho hd (wpAny_pure ?_))
    refine wpAny_bind ?_
    refine wpAny_bind (wpAny_seqItems hl rfl (wpAny_pure ?_))
    simp only [if_neg hs0]
    show wpAny _ A.in1 (updateSeq l (· ++ items2) >>= fun _ => ret .none) _ _ s
    refine wpAny_bind (wpAny_updateSeq hl rfl ?_ (hz := hs1) (_hz' := by rw [Array.size_append]; exact hs2))
    exact wpAny_pure ⟨_, rfl, h⟩
/-- xs.extend(ys), ys a list or a tuple -/
def rExtA : V → List V → Hp → VK → Prop := fun x vs H Q => ∃ l b xs zs, x = .ref l ∧ vs = [.ref b] ∧ H l = some (.lst xs) ∧ (H b = some (.lst zs) ∨ H b = some (.tup zs)) ∧ xs.length + zs.length ≤ sizeLine ∧ Q .non (upd H l (.lst (xs ++ zs)))
theorem mt_extendA {X : Cx} : MtM X "list.extend" rExtA := by
  intro pins s σ H x vs v us Q I rx rv h
  obtain ⟨l, b, xs, zs, rfl, rfl, hH, hB, hz, q⟩ := h
  rcases hB with hB | hB
  · exact mt_extend pins s σ H _ _ v us Q I rx rv ⟨l, b, xs, zs, rfl, rfl, hH, hB, hz, q⟩
  · cases rx
    obtain ⟨u, rfl, ru⟩ := rv.one
    cases ru
    obtain ⟨z, its, n, r, hl, e⟩ := I.lstM hH
    obtain ⟨z2, its2, r2, e2⟩ := I.hok _ _ hB
    have hl2 := r2.length
    have hsz : its.toArray.size + its2.toArray.size ≤ sizeLine := by rw [List.size_toArray, List.size_toArray]; omega
    have hlong : ¬ (!its.toArray.isEmpty && Builtin.List.listTooLong (its.toArray.size + its2.toArray.size)) = true := by
      rw [notLongL hsz, Bool.and_false]
      exact Bool.false_ne_true
    refine call_meets F.slot_list_extend ⟨_, e, rfl⟩ F.entry_list_extend (F.args_list_extend_2 _ _)
      (meets_extT l its.toArray n b its2.toArray hlong (by rw [List.size_toArray]; omega) (by omega)) ⟨e, e2, ?_⟩
    refine ⟨.non, _, I.lset (its' := its ++ its2) hH e (by simp) (r.append r2) ?_, rfl, q⟩
    rw [List.length_append]
    omega
end BFW
namespace BFW
open PySem PySem.Spec PyProof.Rows L2 BFH
open Kvg6 (Box Item)
open BF (BoxOk ItOk)
section
variable {P : Program} {w : World} {K : PySem.W.Frag} {mg : Str → Option Value} {base : Heap}
/-- what a question gives -/
def QOut (K : PySem.W.Frag) (H : Hp) (R : Kvg6.Response) (Q : VK) (E : XK) : Prop := (R.code < 0 → Err K E H R.code) ∧ (0 ≤ R.code → NewInts H (R.code :: R.values) Q)
theorem QOut.err {H H1 : Hp} {R : Kvg6.Response} {Q : VK} {E : XK} (h : QOut K H R Q E) {c : Int} (e : R = .error c) (hc : c < 0) (S : Same H H1) : Err K E H1 c := by
  subst e
  exact (h.1 hc).same S
theorem QOut.new {H : Hp} {R : Kvg6.Response} {Q : VK} {E : XK} (h : QOut K H R Q E) {c : Int} {ns : List Int} (e : R = ⟨c, ns⟩) (hc : 0 ≤ c) : NewInts H (c :: ns) Q := by
  subst e
  exact h.2 hc
/-- the second part of an answer under a condition -/
theorem snd_if {α β : Type} {c : Prop} [Decidable c] {x y : α × β} (h : c) : (if c then x else y).2 = x.2 := by rw [if_pos h]
theorem snd_ifn {α β : Type} {c : Prop} [Decidable c] {x y : α × β} (h : ¬ c) : (if c then x else y).2 = y.2 := by rw [if_neg h]
theorem paired_eq {α β : Type} {f : β → α} : ∀ {l : List α} {m : List β}, Paired (fun x y => x = f y) l m → l = m.map f
  | _, _, .nil => rfl
  | _, _, .cons h t => by rw [List.map_cons, ← h, ← paired_eq t]
/-! ### numbers of rows -/
def SeqI (H : Hp) (v : V) (ns : List Int) : Prop := ∃ q, v = .ref q ∧ (H q = some (.lst (ns.map V.int)) ∨ H q = some (.tup (ns.map V.int)))
def spAllF : Sp := fun vs H Q _ => ∃ (a : Addr) (xs : List V) (nss : List (List Int)), vs = [.ref a] ∧ H a = some (.lst xs) ∧ Paired (SeqI H) xs nss ∧ nss.flatten.length ≤ 1000000 ∧ NewInts H nss.flatten Q
theorem flat_take {α : Type} {l : List (List α)} {i : Nat} {x : List α} (h : l[i]? = some x) : (l.take (i + 1)).flatten = (l.take i).flatten ++ x := by
  rw [List.take_add_one, h, List.flatten_append]
  simp
theorem flat_take_le {α : Type} {l : List (List α)} (i : Nat) : (l.take i).flatten.length ≤ l.flatten.length := by
  conv => rhs; rw [← List.take_append_drop i l]
  rw [List.flatten_append, List.length_append]
  omega
theorem sc_all_from : FnScope ["rows", "found", "row"] ["rows"] (defScope s_all_from) := ⟨rfl, rfl, rfl, by decide +kernel, rfl, by decide +kernel, by decide +kernel⟩
theorem k_all_from (T : Tx K mg) : Kn P w K mg base "all_from" 1 ["rows"] (spAllF) := by
  have F := T.fn1 67 (x := "all_from") (st := s_all_from) rfl
  have sc := sc_all_from
  let st : Stmt := s_all_from
  let nn : List Str := ["rows", "found", "row"]
  refine ⟨F.ok sc (fun vs H Q E h => ?_) (fun cdv A outer s H vs Q E hr h => ?_), F.binds fun _ _ _ _ _ _ us hl => match us, hl with | [_], _ => rfl, F.kp, T.glo 54⟩

  · obtain ⟨a, xs, nss, rfl, _⟩ := h
    rfl
  obtain ⟨a, xs, nss, rfl, ha, hp, hz, k⟩ := h
  refine ⟨_, (pss_cons (ps_set (i := 1) sc.nd rfl (Or.inl rfl) (pe_lst pa_nil))
      (pss_cons (ps_for PassesOwn.never rfl (pi_list (pv 0)) (pg_name (i := 2) sc.nd rfl (Or.inl rfl)) (pss_one (ps_expr (pe_bm PySem.F.plainAttrs_list PySem.F.slot_list_extend PySem.F.type_list_extend mt_extendA (pv 1) (pa_cons (pv 2) pa_nil)))))
      (pss_one (ps_ret (pv 1))))), ?_⟩
  refine ⟨Nat.zero_le _, fun f hf => ?_⟩
  have S0 := Same.upd (o := .lst []) hf
  refine ⟨_, rfl, a, rfl, ⟨_, .inl (.inl (S0 _ _ ha))⟩, ?_⟩
  refine for_list (xs := xs) (fun i σ H1 => ∃ o, σ = [some (.ref a), some (.ref f), o] ∧ Same H H1 ∧ H1 f = some (.lst ((nss.take i).flatten.map V.int))) ?_ ?_ ?_ ?_
  · exact ⟨_, rfl, S0, by rw [List.take_zero]; exact upd_same⟩
  · rintro i σ H1 _ ⟨o, rfl, S, _⟩
    exact .inl (.inl (S _ _ ha))
  · rintro i x σ H1 hx ⟨o, rfl, S, h1⟩
    obtain ⟨ns, hns, q, rfl, hq⟩ := hp.get hx
    have e := flat_take hns
    have hl := flat_take_le (l := nss) (i + 1)
    rw [e, List.length_append] at hl
    refine ⟨_, rfl, .inl ⟨rfl, _, .inl (.inl h1)⟩, _, rfl, f, q, _, ns.map V.int, rfl, rfl, h1, hq.imp (S _ _) (S _ _), line_small (by rw [List.length_map, List.length_map]; omega), _, rfl, S.upd2 hf, ?_⟩
    rw [upd_same, e, List.map_append]
  · rintro σ H1 ⟨o, rfl, S, h1⟩
    rw [hp.len, List.take_length] at h1
    exact ⟨_, rfl, k f H1 hf S h1⟩
/-! ### questions about a tree -/
def spBoxAns (K : PySem.W.Frag) : Sp := fun vs H Q E => ∃ (f : Addr) (i id : Nat) (s : Kvg6.Index), vs = [.ref f, .int i, .int id] ∧ ForestAt K H f s ∧ QOut K H (s.run (.getBox i id)).2 Q E
theorem sc_box_answer : FnScope ["forest", "tree", "number"] ["forest", "tree", "number"] (defScope s_box_answer) := ⟨rfl, rfl, rfl, by decide +kernel, rfl, by decide +kernel, by decide +kernel⟩
theorem k_box_answer (T : Tx K mg) : KnX P w K mg base "box_answer" 11 ["forest", "tree", "number"] (spBoxAns K) := by
  have F := T.fn1 68 (x := "box_answer") (st := s_box_answer) rfl
  have sc := sc_box_answer
  let st : Stmt := s_box_answer
  let nn : List Str := ["forest", "tree", "number"]
  refine ⟨F.okX sc (fun vs H Q E h => ?_) (fun cdv A outer s H vs Q E hr h => ?_), F.binds fun _ _ _ _ _ _ us hl => match us, hl with | [_, _, _], _ => rfl, F.kp, T.glo 55⟩

  · obtain ⟨f, i, id, s, rfl, _⟩ := h
    rfl
  obtain ⟨f, i, id, s', rfl, hf, k⟩ := h
  refine ⟨_, (pss_one (ps_ret (pe_op op_cat (pe_lst (pa_cons pe_int pa_nil)) (pe_callTy call_list_of (by rfl) (T.free 100) boot_list (pa_cons (pe_fld (kmtX (k_Forest_item T) (pv 0) hr (pa_cons (pv 1) (pa_cons (pv 2) pa_nil)) (passes_call (takes_of rfl rfl rfl rfl) fun _ _ _ _ h => h)) rfl) pa_nil))))), ?_⟩
  have hff := hf
  obtain ⟨dx, l, v1, v2, h1, _⟩ := hff
  have hrun : ¬ 1 < i → (s'.run (.getBox i id)).2 = (match Kvg6.find (s'.tree i) id with
    | none => .error (-33)
    | some it => ⟨0, Kvg6.boxValues it.box⟩) := fun hi => by
    refine (snd_ifn hi).trans ?_
    cases Kvg6.find (s'.tree i) id <;> rfl
  refine ⟨by show 1 ≤ sizeLine; decide, fun p hp => ?_⟩
  have S := Same.upd (o := .lst [.int 0]) hp
  have hp1 := upd_same (H := H) (a := p) (o := .lst [.int 0])
  generalize upd H p (.lst [.int 0]) = H1 at *
  refine ⟨_, rfl, f, dx, _, rfl, S _ _ h1, foF_none (by decide +kernel), _, rfl, _, rfl, f, i, id, s', rfl, S.forest hf, fun hi => k.err (snd_if hi) (by decide) S, fun hi hn => k.err ?_ (by decide) S, fun hi it hit v H2 S2 hv => ?_⟩
  · rw [hrun (by omega), hn]
  · rw [hrun (by omega), hit] at k
    obtain ⟨a, w1, q, rfl, g1, gb⟩ := S2.item hv
    refine ⟨_, _, _, _, _, rfl, g1, (kcl_Item T).cl, no_Item_box T, itF_box, q, _, rfl, .inr (.inl (.inl gb.1)), fun p2 hp2 => ?_⟩
    have S3 := Same.upd (o := .lst (bxV it.box)) hp2
    refine ⟨p, p2, _, _, rfl, rfl, S3 _ _ (S2 _ _ hp1), upd_same, by show 1 + 4 ≤ sizeLine; decide, fun r hr0 => ?_⟩
    exact k.new rfl (by decide) r _ (((S.trans S2).trans S3).free hr0) (((S.trans S2).trans S3).trans (Same.upd hr0)) upd_same
def spStat (K : PySem.W.Frag) : Sp := fun vs H Q E => ∃ (f : Addr) (i : Nat) (s : Kvg6.Index), vs = [.ref f, .int i] ∧ ForestAt K H f s ∧ QOut K H (s.run (.statistics i)).2 Q E
theorem sc_statistics : FnScope ["forest", "tree", "root"] ["forest", "tree"] (defScope s_statistics) := ⟨rfl, rfl, rfl, by decide +kernel, rfl, by decide +kernel, by decide +kernel⟩
theorem k_statistics (T : Tx K mg) : KnX P w K mg base "statistics" 9 ["forest", "tree"] (spStat K) := by
  have F := T.fn1 69 (x := "statistics") (st := s_statistics) rfl
  have sc := sc_statistics
  let st : Stmt := s_statistics
  let nn : List Str := ["forest", "tree", "root"]
  refine ⟨F.okX sc (fun vs H Q E h => ?_) (fun cdv A outer s H vs Q E hr h => ?_), F.binds fun _ _ _ _ _ _ us hl => match us, hl with | [_, _], _ => rfl, F.kp, T.glo 56⟩

  · obtain ⟨f, i, s, rfl, _⟩ := h
    rfl
  obtain ⟨f, i, s', rfl, hf, k⟩ := h
  refine ⟨_, (pss_cons (ps_set (i := 2) sc.nd rfl (Or.inl rfl) (kmtX (k_Forest_root T) (pv 0) hr (pa_cons (pv 1) pa_nil) (passes_call (takes_of rfl rfl rfl rfl) fun _ _ _ _ h => h)))
      (pss_one (ps_ret (pe_lst (pa_cons (pe_callB call_len_seq (by rfl) (T.free 91) PySem.boot_len (pa_cons (kc (k_items_below T) hr (pa_cons (pv 2) pa_nil)) pa_nil)) (pa_cons (pe_fld (pv 2) rfl) (pa_cons (pe_callB call_len_seq (by rfl) (T.free 91) PySem.boot_len (pa_cons (kc (k_subtree T) hr (pa_cons (pv 2) pa_nil)) pa_nil)) pa_nil))))))), ?_⟩
  have hff := hf
  obtain ⟨dx, l, v1, v2, h1, _⟩ := hff
  refine ⟨_, rfl, f, dx, _, rfl, h1, foF_none (by decide +kernel), _, rfl, f, i, s', rfl, hf, fun hi v hv => ?_, fun hi => k.err (snd_if hi) (by decide) (Same.refl H)⟩
  obtain ⟨n, ht, hg⟩ := hv
  have hl := hg.low
  obtain ⟨p, dx2, e, bv, xs, rfl, ta⟩ := ht.at_
  refine ⟨_, rfl, n, _, _, H, by omega, rfl, Same.refl H, ht, fun q1 ys H1 hq1 S1 hy1 hp1 => ?_⟩
  refine ⟨q1, ys, rfl, .inl (.inl (.inl hy1)), _, rfl, _, _, _, _, _, rfl, S1 _ _ ta.node, (kcl_Node T).cl, no_Node_level T, ndF_level, _, rfl, n, _, _, H, by omega, by omega, rfl, S1, ht, fun q2 zs H2 hq2 S2 hz2 hp2 => ?_⟩
  refine ⟨q2, zs, rfl, .inl (.inl (.inl hz2)), by show 3 ≤ sizeLine; decide, fun r hr0 => ?_⟩
  refine (k.new (snd_ifn (by omega)) (by omega)) r _ ((S1.trans S2).free hr0) ((S1.trans S2).trans (Same.upd hr0)) ?_
  rw [upd_same, hp1.len, hp2.len, sub_count hg.root.bal (by omega), BF.height_of hg.root.ne (by omega), hg.items]
  rfl
def spBounds (K : PySem.W.Frag) : Sp := fun vs H Q E => ∃ (f : Addr) (i : Nat) (s : Kvg6.Index), vs = [.ref f, .int i] ∧ ForestAt K H f s ∧ QOut K H (s.run (.bounds i)).2 Q E
theorem sc_bounds : FnScope ["forest", "tree", "root"] ["forest", "tree"] (defScope s_bounds) := ⟨rfl, rfl, rfl, by decide +kernel, rfl, by decide +kernel, by decide +kernel⟩
theorem k_bounds (T : Tx K mg) : KnX P w K mg base "bounds" 5 ["forest", "tree"] (spBounds K) := by
  have F := T.fn1 70 (x := "bounds") (st := s_bounds) rfl
  have sc := sc_bounds
  obtain ⟨tNOT_THERE, gNOT_THERE⟩ := T.int 109 (x := "NOT_THERE") rfl
  let st : Stmt := s_bounds
  let nn : List Str := ["forest", "tree", "root"]
  refine ⟨F.okX sc (fun vs H Q E h => ?_) (fun cdv A outer s H vs Q E hr h => ?_), F.binds fun _ _ _ _ _ _ us hl => match us, hl with | [_, _], _ => rfl, F.kp, T.glo 57⟩

  · obtain ⟨f, i, s, rfl, _⟩ := h
    rfl
  obtain ⟨f, i, s', rfl, hf, k⟩ := h
  refine ⟨_, (pss_cons (ps_set (i := 2) sc.nd rfl (Or.inl rfl) (kmtX (k_Forest_root T) (pv 0) hr (pa_cons (pv 1) pa_nil) (passes_call (takes_of rfl rfl rfl rfl) fun _ _ _ _ h => h)))
      (pss_cons (ps_expr (kcX (k_need T) hr (pa_cons (pe_cmpR (op_neNil hr.units0) (pe_fld (pv 2) rfl) (pe_lst pa_nil) (nomark _)) (pa_cons (pe_glob (v := .int (-33)) rfl gNOT_THERE ⟨_, rfl⟩) pa_nil)) (passes_call (takes_of rfl rfl rfl rfl) fun _ _ _ _ h => h)))
      (pss_one (ps_ret (pe_op op_cat (pe_lst (pa_cons pe_int pa_nil)) (pe_callTy call_list_of (by rfl) (T.free 100) boot_list (pa_cons (pe_fld (pv 2) rfl) pa_nil))))))), ?_⟩
  have hff := hf
  obtain ⟨dx, l, v1, v2, h1, _⟩ := hff
  refine ⟨_, rfl, f, dx, _, rfl, h1, foF_none (by decide +kernel), _, rfl, f, i, s', rfl, hf, fun hi v hv => ?_, fun hi => k.err (snd_if hi) (by decide) (Same.refl H)⟩
  obtain ⟨n, ht, hg⟩ := hv
  have hl := hg.low
  obtain ⟨p, dx2, e, bv, xs, rfl, ta⟩ := ht.at_
  have e1 := ents_empty ta hg
  refine ⟨_, rfl, _, _, _, _, _, rfl, ta.node, (kcl_Node T).cl, no_Node_entries T, ndF_entries, Nat.zero_le _, fun l hl => ⟨e, l, xs, rfl, rfl, .inl (.inl (Same.upd hl _ _ ta.list)), upd_same, _, _, rfl, fun c => ?_, fun c => ?_⟩⟩
  · have c1 : (s'.tree i).items.isEmpty = false := by rw [← e1]; simpa using c
    rw [c1] at e1
    have S1 := Same.upd (o := .lst []) hl
    obtain ⟨a1, C1, d1, f1, q1, ea, g1, cc1, n1, l1, b1⟩ := ent_fld T (S1.ent (ta.ent (by omega) fun z => by rw [z] at e1; cases e1))
    obtain rfl : p = a1 := by injection ea
    refine ⟨by show 1 ≤ sizeLine; decide, fun l2 hl2 => ?_⟩
    have S2 := Same.upd (o := .lst [.int 0]) hl2
    refine ⟨_, rfl, _, _, _, _, _, rfl, S2 _ _ g1, cc1, n1, l1, q1, _, rfl, .inr (.inl (.inl (S2.box b1).1)), fun l3 hl3 => ?_⟩
    have S3 := Same.upd (o := .lst (bxV (s'.tree i).box)) hl3
    refine ⟨l2, l3, _, _, rfl, rfl, S3 _ _ upd_same, upd_same, by show 1 + 4 ≤ sizeLine; decide, fun r hr0 => ?_⟩
    have S13 := (S1.trans S2).trans S3
    refine (k.new (c := 0) (ns := Kvg6.boxValues (s'.tree i).box) ((snd_ifn (by omega)).trans (snd_ifn (by rw [c1]; decide))) (by decide)) r _ (S13.free hr0) (S13.trans (Same.upd hr0)) upd_same
  · refine k.err ((snd_ifn (by omega)).trans (snd_if (by rw [← e1]; simpa using c))) (by decide) (Same.upd hl)
def spSAns (K : PySem.W.Frag) : Sp := fun vs H Q _ => ∃ (vis : Nat) (a : Addr) (xs : List V) (its ref : List Item), vs = [.int vis, .ref a] ∧ H a = some (.lst xs) ∧ Paired (ItemAt K H) xs its ∧ its.Perm ref ∧ xs.length ≤ 1000 ∧ NewInts H ((vis : Int) :: (Kvg6.idsResult vis ref).values) Q
theorem ints_sorted {ns : List Int} {l : List Nat} (p : ns.Perm (l.map fun n : Nat => (n : Int))) (h : ns.Pairwise (· ≤ ·)) : ns = Kvg6.ints (Kvg6.sortNumbers l) := by
  have hnn : ∀ x ∈ ns, ((x.toNat : Nat) : Int) = x := fun x hx => by
    obtain ⟨n, _, rfl⟩ := List.mem_map.mp (p.mem_iff.mp hx)
    rfl
  have e1 : (ns.map Int.toNat).map Int.ofNat = ns := by
    rw [List.map_map]
    conv => rhs; rw [← List.map_id ns]
    exact List.map_congr_left fun x hx => hnn x hx
  have p2 : (ns.map Int.toNat).Perm l := by
    have := p.map Int.toNat
    rw [List.map_map] at this
    have e : (Int.toNat ∘ fun n : Nat => (n : Int)) = id := by funext n; rfl
    rw [e, List.map_id] at this
    exact this
  have h2 : (ns.map Int.toNat).Pairwise (· ≤ ·) := List.pairwise_map.mpr (h.imp_of_mem fun {x y} hx hy hxy => by
    have := hnn x hx
    have := hnn y hy
    omega)
  rw [BF.sortNumbers_eq p2 h2]
  exact e1.symm
theorem sc_search_answer : FnScope ["visited", "items", "item"] ["visited", "items"] (defScope s_search_answer) := ⟨rfl, rfl, rfl, by decide +kernel, rfl, by decide +kernel, by decide +kernel⟩
theorem k_search_answer (T : Tx K mg) : Kn P w K mg base "search_answer" 1 ["visited", "items"] (spSAns K) := by
  have F := T.fn1 71 (x := "search_answer") (st := s_search_answer) rfl
  have sc := sc_search_answer
  let st : Stmt := s_search_answer
  let nn : List Str := ["visited", "items", "item"]
  refine ⟨F.ok sc (fun vs H Q E h => ?_) (fun cdv A outer s H vs Q E hr h => ?_), F.binds fun _ _ _ _ _ _ us hl => match us, hl with | [_, _], _ => rfl, F.kp, T.glo 58⟩

  · obtain ⟨vis, a, xs, its, ref, rfl, _⟩ := h
    rfl
  obtain ⟨vis, a, xs, its, ref, rfl, ha, hp, hperm, hl, k⟩ := h
  refine ⟨_, (pss_one (ps_ret (pe_op op_cat (pe_lst (pa_cons (pv 0) (pa_cons (pe_callB call_len_seq (by rfl) (T.free 91) PySem.boot_len (pa_cons (pv 1) pa_nil)) pa_nil))) (pe_callB cr_sortedI (by rfl) (T.free 96) boot_sorted (pa_cons (pe_lc (own := [("item", 2)]) (g := gName 2) (tt := tYes) rfl sc.nd (pi_list (pv 1)) (blkOk_by (N := nn) (sc := defScope st) (by decide +kernel)) (fun _ _ _ _ _ => (pg_name (i := 2) sc.nd rfl (Or.inl rfl))) (fun _ _ _ _ _ => pts_nil) (fun _ _ _ _ _ => (pe_fldK (K := K) rfl (pv 2) rfl))) pa_nil))))), ?_⟩
  refine ⟨_, rfl, _, rfl, a, xs, rfl, .inl (.inl (.inl ha)), by show 2 ≤ sizeLine; decide, fun p hp0 => ?_⟩
  have S := Same.upd (o := .lst [.int vis, .int (xs.length : Nat)]) hp0
  have hp1 := upd_same (H := H) (a := p) (o := .lst [.int vis, .int (xs.length : Nat)])
  generalize upd H p (.lst [.int vis, .int (xs.length : Nat)]) = H1 at *
  refine ⟨_, rfl, a, rfl, ⟨_, .inl (.inl (S _ _ ha))⟩, ?_⟩
  refine lc_li (R0 := ItemAt K H) its (fun _ => true) (fun H' u it => u = .int (it.id : Int)) hp ?_ ?_ ?_ ?_ ?_ ?_ ?_
  · exact fun H2 S2 => .inl (.inl (S2 _ _ (S _ _ ha)))
  · exact Nat.lt_of_le_of_lt hl (by decide)
  · exact fun _ _ _ _ _ h => h
  · exact fun _ => rfl
  · exact fun x z H3 _ _ _ kf hk => hk _ (Same.refl _)
  · intro x z H3 D acc hx _ _ S3 S3' hD kf hk
    obtain ⟨u1, w1, r1, rfl, g1, gb⟩ := (S.trans S3).item hx
    exact ⟨_, rfl, _, _, _, _, _, rfl, g1, (kcl_Item T).cl, no_Item_number T, itF_number, hk _ _ (Same.refl _) rfl⟩
  · intro D H3 ys hD S3 hys hpy
    rw [List.filter_eq_self.mpr fun _ _ => rfl] at hpy
    have ey := paired_eq hpy
    have ey2 : ys = (its.map fun it => (it.id : Int)).map V.int := by rw [ey, List.map_map]; rfl
    rw [ey2] at hys
    refine ⟨D, _, rfl, .inl (.inl hys), fun ns' p2 h1 h2 h3 => ?_⟩
    have S4 := Same.upd (o := .lst (ns'.map V.int)) h3
    have en := ints_sorted (l := ref.map Item.id) (h1.trans (by rw [List.map_map]; exact hperm.map _)) h2
    have hnl : ns'.length = xs.length := by rw [h1.length_eq, List.length_map, hp.len]
    refine ⟨p, p2, _, _, rfl, rfl, S4 _ _ (S3 _ _ hp1), upd_same, line_small (by rw [List.length_map, hnl]; show 2 + xs.length ≤ _; omega), fun r hr0 => ?_⟩
    refine k r _ (((S.trans S3).trans S4).free hr0) (((S.trans S3).trans S4).trans (Same.upd hr0)) ?_
    rw [upd_same, en]
    unfold Kvg6.idsResult
    rw [hp.len, hperm.length_eq]
    rfl
end
end BFW
namespace BFW
open PySem PySem.Spec PyProof.Rows L2 BFH
open Kvg6 (Box Item)
open BF (BoxOk ItOk)
section
variable {P : Program} {w : World} {K : PySem.W.Frag} {mg : Str → Option Value} {base : Heap}
theorem search_at {n : Nat} {t : Kvg6.Tree} (g : BF.GoodAt n t) (b : Box) : Kvg6.search t b = Kvg6.searchIn b n t := BF.srch_fuel b n t g.root.bal _ _ (by have := g.low; show n ≤ 16; omega) (Nat.le_refl n)
def spSearch (K : PySem.W.Frag) (op : Nat → List Int → Kvg6.Operation) : Sp := fun vs H Q E => ∃ (f a : Addr) (i : Nat) (ns : List Int) (s : Kvg6.Index), vs = [.ref f, .int i, .ref a] ∧ ForestAt K H f s ∧ H a = some (.lst (ns.map V.int)) ∧ ns.length ≤ 300 ∧ QOut K H (s.run (op i ns)).2 Q E
theorem sc_search_window : FnScope ["forest", "tree", "values", "root", "visited", "items"] ["forest", "tree", "values"] (defScope s_search_window) := ⟨rfl, rfl, rfl, by decide +kernel, rfl, by decide +kernel, by decide +kernel⟩
theorem k_search_window (T : Tx K mg) : KnX P w K mg base "search_window" 5 ["forest", "tree", "values"] ((spSearch K .searchWindow)) := by
  have F := T.fn1 72 (x := "search_window") (st := s_search_window) rfl
  have sc := sc_search_window
  let st : Stmt := s_search_window
  let nn : List Str := ["forest", "tree", "values", "root", "visited", "items"]
  refine ⟨F.okX sc (fun vs H Q E h => ?_) (fun cdv A outer s H vs Q E hr h => ?_), F.binds fun _ _ _ _ _ _ us hl => match us, hl with | [_, _, _], _ => rfl, F.kp, T.glo 59⟩

  · obtain ⟨f, a, i, ns, s, rfl, _⟩ := h
    rfl
  obtain ⟨f, a, i, ns, s', rfl, hf, ha, h300, k⟩ := h
  refine ⟨_, (pss_cons (ps_set (i := 3) sc.nd rfl (Or.inl rfl) (kmtX (k_Forest_root T) (pv 0) hr (pa_cons (pv 1) pa_nil) (passes_call (takes_of rfl rfl rfl rfl) fun _ _ _ _ h => h)))
      (pss_cons (ps_asg (kc (k_window_search T) hr (pa_cons (pv 3) (pa_cons (kcX (k_box_from T) hr (pa_cons (pv 2) pa_nil) (passes_call (takes_of rfl rfl rfl rfl) fun _ _ _ _ h => h)) pa_nil))) (pg_tup rfl (pgs_cons (pg_name (i := 4) sc.nd rfl (Or.inl rfl)) (pgs_cons (pg_name (i := 5) sc.nd rfl (Or.inl rfl)) pgs_nil))))
      (pss_one (ps_ret (kc (k_search_answer T) hr (pa_cons (pv 4) (pa_cons (pv 5) pa_nil))))))), ?_⟩
  have hff := hf
  obtain ⟨dx, l, v1, v2, h1, _⟩ := hff
  refine ⟨_, rfl, f, dx, _, rfl, h1, foF_none (by decide +kernel), _, rfl, f, i, s', rfl, hf, fun hi v hv => ?_, fun hi => k.err (snd_if hi) (by decide) (Same.refl H)⟩
  obtain ⟨n, ht, hg⟩ := hv
  refine ⟨_, rfl, _, rfl, a, ns, rfl, ha, h300, fun b hb q H1 hq S1 hbx => ?_, fun hb => k.err ((snd_ifn (by omega)).trans (by rw [hb])) (by decide) (Same.refl H)⟩
  refine ⟨n, v, s'.tree i, q, b, rfl, S1.tree ht, hg, hbx.1, fun r p xs its H2 hr2 hp2 S2 hr3 hxs hpi hperm hl => ?_⟩
  have S12 := S1.trans S2
  refine ⟨r, _, rfl, .inl (.inl hr3), rfl, _, _, rfl, _, _, rfl, rfl, ?_⟩
  refine ⟨_, rfl, _, rfl, _, p, xs, its, _, rfl, hxs, hpi, hperm, hl, ?_⟩
  rw [← search_at hg]
  exact (k.new ((snd_ifn (by omega)).trans (by rw [hb]; rfl)) (by omega)).same S12
theorem sc_search_contained : FnScope ["forest", "tree", "values", "root", "window", "visited", "items", "item"] ["forest", "tree", "values"] (defScope s_search_contained) := ⟨rfl, rfl, rfl, by decide +kernel, rfl, by decide +kernel, by decide +kernel⟩
theorem k_search_contained (T : Tx K mg) : KnX P w K mg base "search_contained" 5 ["forest", "tree", "values"] ((spSearch K .searchContained)) := by
  have F := T.fn1 73 (x := "search_contained") (st := s_search_contained) rfl
  have sc := sc_search_contained
  let st : Stmt := s_search_contained
  let nn : List Str := ["forest", "tree", "values", "root", "window", "visited", "items", "item"]
  refine ⟨F.okX sc (fun vs H Q E h => ?_) (fun cdv A outer s H vs Q E hr h => ?_), F.binds fun _ _ _ _ _ _ us hl => match us, hl with | [_, _, _], _ => rfl, F.kp, T.glo 60⟩

  · obtain ⟨f, a, i, ns, s, rfl, _⟩ := h
    rfl
  obtain ⟨f, a, i, ns, s', rfl, hf, ha, h300, k⟩ := h
  refine ⟨_, (pss_cons (ps_set (i := 3) sc.nd rfl (Or.inl rfl) (kmtX (k_Forest_root T) (pv 0) hr (pa_cons (pv 1) pa_nil) (passes_call (takes_of rfl rfl rfl rfl) fun _ _ _ _ h => h)))
      (pss_cons (ps_set (i := 4) sc.nd rfl (Or.inr rfl) (kcX (k_box_from T) hr (pa_cons (pv 2) pa_nil) (passes_call (takes_of rfl rfl rfl rfl) fun _ _ _ _ h => h)))
      (pss_cons (ps_asg (kc (k_window_search T) hr (pa_cons (pv 3) (pa_cons (pv 4) pa_nil))) (pg_tup rfl (pgs_cons (pg_name (i := 5) sc.nd rfl (Or.inl rfl)) (pgs_cons (pg_name (i := 6) sc.nd rfl (Or.inl rfl)) pgs_nil))))
      (pss_one (ps_ret (kc (k_search_answer T) hr (pa_cons (pv 5) (pa_cons (pe_lc (own := [("item", 7)]) (g := gName 7) rfl sc.nd (pi_list (pv 6)) (blkOk_by (N := nn) (sc := defScope st) (by decide +kernel)) (fun _ _ _ _ _ => (pg_name (i := 7) sc.nd rfl (Or.inl rfl))) (fun _ _ _ _ _ => (pts_one (pt_val (kc (k_contains T) hr (pa_cons (pv 4) (pa_cons (pe_fldK (K := K) rfl (pv 7) rfl) pa_nil)))))) (fun _ _ _ _ _ => (pv 7))) pa_nil)))))))), ?_⟩
  have hff := hf
  obtain ⟨dx, l, v1, v2, h1, _⟩ := hff
  refine ⟨_, rfl, f, dx, _, rfl, h1, foF_none (by decide +kernel), _, rfl, f, i, s', rfl, hf, fun hi v hv => ?_, fun hi => k.err (snd_if hi) (by decide) (Same.refl H)⟩
  obtain ⟨n, ht, hg⟩ := hv
  refine ⟨_, rfl, a, ns, rfl, ha, h300, fun b hb q H1 hq S1 hbx => ?_, fun hb => k.err ((snd_ifn (by omega)).trans (by rw [hb])) (by decide) (Same.refl H)⟩
  refine ⟨_, rfl, _, rfl, n, v, s'.tree i, q, b, rfl, S1.tree ht, hg, hbx.1, fun r p xs its H2 hr2 hp2 S2 hr3 hxs hpi hperm hl => ?_⟩
  have S12 := S1.trans S2
  have hb2 := S2.box hbx
  refine ⟨r, _, rfl, .inl (.inl hr3), rfl, _, _, rfl, _, _, rfl, rfl, ?_⟩
  refine ⟨_, rfl, _, rfl, p, rfl, ⟨_, .inl (.inl hxs)⟩, ?_⟩
  refine lc_li (R0 := ItemAt K H2) its (fun it => Kvg6.contains b it.box) (fun H' u it => ItemAt K H2 u it) hpi ?_ ?_ ?_ ?_ ?_ ?_ ?_
  · exact fun H2 S3 => .inl (.inl (S3 _ _ hxs))
  · exact Nat.lt_of_le_of_lt hl (by decide)
  · exact fun _ _ _ _ _ h => h
  · exact fun _ => rfl
  · intro x z H3 hx _ S3 kf hk
    obtain ⟨u1, w1, r1, rfl, g1, gb⟩ := S3.item hx
    exact ⟨_, rfl, _, rfl, _, _, _, _, _, rfl, g1, (kcl_Item T).cl, no_Item_box T, itF_box, q, r1, b, z.box, rfl, (S3.box hb2).1, gb.1, _, rfl, hk _ (Same.refl _)⟩
  · exact fun x z H3 D acc hx _ _ S3 S3' hD kf hk => ⟨_, rfl, hk _ _ (Same.refl _) hx⟩
  · intro D H3 ys hD S3 hys hpy
    have hyl : ys.length ≤ xs.length := by
      rw [hpy.len, hpi.len]
      exact List.length_filter_le _ _
    refine ⟨_, D, ys, _, _, rfl, hys, Paired.impl (fun _ _ h => S3.item h) hpy, hperm.filter _, by omega, ?_⟩
    rw [← search_at hg]
    exact (k.new ((snd_ifn (by omega)).trans (by rw [hb]; rfl)) (by omega)).same (S12.trans S3)
theorem sc_search_covering : FnScope ["forest", "tree", "values", "root", "window", "visited", "items", "item"] ["forest", "tree", "values"] (defScope s_search_covering) := ⟨rfl, rfl, rfl, by decide +kernel, rfl, by decide +kernel, by decide +kernel⟩
theorem k_search_covering (T : Tx K mg) : KnX P w K mg base "search_covering" 5 ["forest", "tree", "values"] ((spSearch K .searchCovering)) := by
  have F := T.fn1 74 (x := "search_covering") (st := s_search_covering) rfl
  have sc := sc_search_covering
  let st : Stmt := s_search_covering
  let nn : List Str := ["forest", "tree", "values", "root", "window", "visited", "items", "item"]
  refine ⟨F.okX sc (fun vs H Q E h => ?_) (fun cdv A outer s H vs Q E hr h => ?_), F.binds fun _ _ _ _ _ _ us hl => match us, hl with | [_, _, _], _ => rfl, F.kp, T.glo 61⟩

  · obtain ⟨f, a, i, ns, s, rfl, _⟩ := h
    rfl
  obtain ⟨f, a, i, ns, s', rfl, hf, ha, h300, k⟩ := h
  refine ⟨_, (pss_cons (ps_set (i := 3) sc.nd rfl (Or.inl rfl) (kmtX (k_Forest_root T) (pv 0) hr (pa_cons (pv 1) pa_nil) (passes_call (takes_of rfl rfl rfl rfl) fun _ _ _ _ h => h)))
      (pss_cons (ps_set (i := 4) sc.nd rfl (Or.inr rfl) (kcX (k_box_from T) hr (pa_cons (pv 2) pa_nil) (passes_call (takes_of rfl rfl rfl rfl) fun _ _ _ _ h => h)))
      (pss_cons (ps_asg (kc (k_window_search T) hr (pa_cons (pv 3) (pa_cons (pv 4) pa_nil))) (pg_tup rfl (pgs_cons (pg_name (i := 5) sc.nd rfl (Or.inl rfl)) (pgs_cons (pg_name (i := 6) sc.nd rfl (Or.inl rfl)) pgs_nil))))
      (pss_one (ps_ret (kc (k_search_answer T) hr (pa_cons (pv 5) (pa_cons (pe_lc (own := [("item", 7)]) (g := gName 7) rfl sc.nd (pi_list (pv 6)) (blkOk_by (N := nn) (sc := defScope st) (by decide +kernel)) (fun _ _ _ _ _ => (pg_name (i := 7) sc.nd rfl (Or.inl rfl))) (fun _ _ _ _ _ => (pts_one (pt_val (kc (k_contains T) hr (pa_cons (pe_fldK (K := K) rfl (pv 7) rfl) (pa_cons (pv 4) pa_nil)))))) (fun _ _ _ _ _ => (pv 7))) pa_nil)))))))), ?_⟩
  have hff := hf
  obtain ⟨dx, l, v1, v2, h1, _⟩ := hff
  refine ⟨_, rfl, f, dx, _, rfl, h1, foF_none (by decide +kernel), _, rfl, f, i, s', rfl, hf, fun hi v hv => ?_, fun hi => k.err (snd_if hi) (by decide) (Same.refl H)⟩
  obtain ⟨n, ht, hg⟩ := hv
  refine ⟨_, rfl, a, ns, rfl, ha, h300, fun b hb q H1 hq S1 hbx => ?_, fun hb => k.err ((snd_ifn (by omega)).trans (by rw [hb])) (by decide) (Same.refl H)⟩
  refine ⟨_, rfl, _, rfl, n, v, s'.tree i, q, b, rfl, S1.tree ht, hg, hbx.1, fun r p xs its H2 hr2 hp2 S2 hr3 hxs hpi hperm hl => ?_⟩
  have S12 := S1.trans S2
  have hb2 := S2.box hbx
  refine ⟨r, _, rfl, .inl (.inl hr3), rfl, _, _, rfl, _, _, rfl, rfl, ?_⟩
  refine ⟨_, rfl, _, rfl, p, rfl, ⟨_, .inl (.inl hxs)⟩, ?_⟩
  refine lc_li (R0 := ItemAt K H2) its (fun it => Kvg6.contains it.box b) (fun H' u it => ItemAt K H2 u it) hpi ?_ ?_ ?_ ?_ ?_ ?_ ?_
  · exact fun H2 S3 => .inl (.inl (S3 _ _ hxs))
  · exact Nat.lt_of_le_of_lt hl (by decide)
  · exact fun _ _ _ _ _ h => h
  · exact fun _ => rfl
  · intro x z H3 hx _ S3 kf hk
    obtain ⟨u1, w1, r1, rfl, g1, gb⟩ := S3.item hx
    exact ⟨_, rfl, _, _, _, _, _, rfl, g1, (kcl_Item T).cl, no_Item_box T, itF_box, _, rfl, r1, q, z.box, b, rfl, gb.1, (S3.box hb2).1, _, rfl, hk _ (Same.refl _)⟩
  · exact fun x z H3 D acc hx _ _ S3 S3' hD kf hk => ⟨_, rfl, hk _ _ (Same.refl _) hx⟩
  · intro D H3 ys hD S3 hys hpy
    have hyl : ys.length ≤ xs.length := by
      rw [hpy.len, hpi.len]
      exact List.length_filter_le _ _
    refine ⟨_, D, ys, _, _, rfl, hys, Paired.impl (fun _ _ h => S3.item h) hpy, hperm.filter _, by omega, ?_⟩
    rw [← search_at hg]
    exact (k.new ((snd_ifn (by omega)).trans (by rw [hb]; rfl)) (by omega)).same (S12.trans S3)
def spPt (K : PySem.W.Frag) : Sp := fun vs H Q E => ∃ (x y : Int), vs = [.int x, .int y] ∧ ((Kvg6.isCoordinate x && Kvg6.isCoordinate y) = true → NewBox H (Kvg6.point x y) Q) ∧ ((Kvg6.isCoordinate x && Kvg6.isCoordinate y) = false → Err K E H (-22))
theorem point_ok {x y : Int} (h : (Kvg6.isCoordinate x && Kvg6.isCoordinate y) = true) : BoxOk (Kvg6.point x y) := by
  unfold Kvg6.isCoordinate at h
  simp only [Bool.and_eq_true, decide_eq_true_eq] at h
  unfold Kvg6.point
  refine ⟨⟨?_, ?_, ?_⟩, ?_, ?_, ?_⟩ <;> (show _ ≤ _) <;> dsimp only <;> omega
theorem sc_point_from : FnScope ["x", "y"] ["x", "y"] (defScope s_point_from) := ⟨rfl, rfl, rfl, by decide +kernel, rfl, by decide +kernel, by decide +kernel⟩
theorem k_point_from (T : Tx K mg) : KnX P w K mg base "point_from" 4 ["x", "y"] (spPt K) := by
  have F := T.fn1 75 (x := "point_from") (st := s_point_from) rfl
  have sc := sc_point_from
  obtain ⟨tOUT_OF_RANGE, gOUT_OF_RANGE⟩ := T.int 107 (x := "OUT_OF_RANGE") rfl
  let st : Stmt := s_point_from
  let nn : List Str := ["x", "y"]
  refine ⟨F.okX sc (fun vs H Q E h => ?_) (fun cdv A outer s H vs Q E hr h => ?_), F.binds fun _ _ _ _ _ _ us hl => match us, hl with | [_, _], _ => rfl, F.kp, T.glo 62⟩

  · obtain ⟨x, y, rfl, _⟩ := h
    rfl
  obtain ⟨x, y, rfl, k1, k2⟩ := h
  refine ⟨_, (pss_cons (ps_expr (kcX (k_need T) hr (pa_cons (pe_and (kc (k_is_coordinate T) hr (pa_cons (pv 0) pa_nil)) (pe_one (kc (k_is_coordinate T) hr (pa_cons (pv 1) pa_nil)))) (pa_cons (pe_glob (v := .int (-22)) rfl gOUT_OF_RANGE ⟨_, rfl⟩) pa_nil)) (passes_call (takes_of rfl rfl rfl rfl) fun _ _ _ _ h => h)))
      (pss_one (ps_ret (pe_tup (pa_cons (pv 0) (pa_cons (pv 1) (pa_cons (pv 0) (pa_cons (pv 1) pa_nil)))))))), ?_⟩
  refine ⟨_, rfl, _, rfl, ?_⟩
  cases c1 : Kvg6.isCoordinate x with
  | false =>
    rw [c1] at k2
    exact ⟨false, rfl, iteF ⟨false, -22, rfl, fun z => (by cases z), fun _ => k2 rfl⟩⟩
  | true =>
    have hp := fun c => point_ok (x := x) (y := y) (by rw [c1]; exact c)
    rw [c1] at k1 k2
    exact ⟨true, rfl, iteT ⟨_, rfl, y, rfl, Kvg6.isCoordinate y, -22, rfl, fun c => ⟨_, rfl, _, rfl, _, rfl, _, rfl, by show 4 ≤ sizeLine; decide, fun q hq => k1 c q _ hq (Same.upd hq) ⟨upd_same, hp c⟩⟩, fun c => k2 c⟩⟩
def spWithin (K : PySem.W.Frag) : Sp := fun vs H Q E => ∃ (f : Addr) (i : Nat) (x y : Int) (d : Nat) (s : Kvg6.Index), vs = [.ref f, .int i, .int x, .int y, .int d] ∧ ForestAt K H f s ∧ d < 2 ^ 62 ∧ QOut K H (s.run (.searchWithin i x y d)).2 Q E
theorem sc_search_within : FnScope ["forest", "tree", "x", "y", "distance", "root", "point", "visited", "items", "limit", "item"] ["forest", "tree", "x", "y", "distance"] (defScope s_search_within) := ⟨rfl, rfl, rfl, by decide +kernel, rfl, by decide +kernel, by decide +kernel⟩
theorem k_search_within (T : Tx K mg) : KnX P w K mg base "search_within" 5 ["forest", "tree", "x", "y", "distance"] (spWithin K) := by
  have F := T.fn1 76 (x := "search_within") (st := s_search_within) rfl
  have sc := sc_search_within
  let st : Stmt := s_search_within
  let nn : List Str := ["forest", "tree", "x", "y", "distance", "root", "point", "visited", "items", "limit", "item"]
  refine ⟨F.okX sc (fun vs H Q E h => ?_) (fun cdv A outer s H vs Q E hr h => ?_), F.binds fun _ _ _ _ _ _ us hl => match us, hl with | [_, _, _, _, _], _ => rfl, F.kp, T.glo 63⟩

  · obtain ⟨f, i, x, y, d, s, rfl, _⟩ := h
    rfl
  obtain ⟨f, i, x, y, d, s', rfl, hf, hd, k⟩ := h
  refine ⟨_, (pss_cons (ps_set (i := 5) sc.nd rfl (Or.inl rfl) (kmtX (k_Forest_root T) (pv 0) hr (pa_cons (pv 1) pa_nil) (passes_call (takes_of rfl rfl rfl rfl) fun _ _ _ _ h => h)))
      (pss_cons (ps_set (i := 6) sc.nd rfl (Or.inr rfl) (kcX (k_point_from T) hr (pa_cons (pv 2) (pa_cons (pv 3) pa_nil)) (passes_call (takes_of rfl rfl rfl rfl) fun _ _ _ _ h => h)))
      (pss_cons (ps_asg (kc (k_window_search T) hr (pa_cons (pv 5) (pa_cons (pe_tup (pa_cons (pe_op op_sub (pv 2) (pv 4)) (pa_cons (pe_op op_sub (pv 3) (pv 4)) (pa_cons (pe_op op_add (pv 2) (pv 4)) (pa_cons (pe_op op_add (pv 3) (pv 4)) pa_nil))))) pa_nil))) (pg_tup rfl (pgs_cons (pg_name (i := 7) sc.nd rfl (Or.inl rfl)) (pgs_cons (pg_name (i := 8) sc.nd rfl (Or.inl rfl)) pgs_nil))))
      (pss_cons (ps_set (i := 9) sc.nd rfl (Or.inr rfl) (pe_op op_mul (pv 4) (pv 4)))
      (pss_one (ps_ret (kc (k_search_answer T) hr (pa_cons (pv 7) (pa_cons (pe_lc (own := [("item", 10)]) (g := gName 10) rfl sc.nd (pi_list (pv 8)) (blkOk_by (N := nn) (sc := defScope st) (by decide +kernel)) (fun _ _ _ _ _ => (pg_name (i := 10) sc.nd rfl (Or.inl rfl))) (fun _ _ _ _ _ => (pts_one (pt_cmpR op_le (kc (k_squared_distance T) hr (pa_cons (pe_fldK (K := K) rfl (pv 10) rfl) (pa_cons (pv 6) pa_nil))) (pv 9) (nomark _)))) (fun _ _ _ _ _ => (pv 10))) pa_nil))))))))), ?_⟩
  have hff := hf
  obtain ⟨dx, l, v1, v2, h1, _⟩ := hff
  refine ⟨_, rfl, f, dx, _, rfl, h1, foF_none (by decide +kernel), _, rfl, f, i, s', rfl, hf, fun hi v hv => ?_, fun hi => k.err (snd_if hi) (by decide) (Same.refl H)⟩
  obtain ⟨n, ht, hg⟩ := hv
  refine ⟨_, rfl, _, rfl, x, y, rfl, fun hc q H1 hq S1 hbx => ?_, fun hc => k.err ((snd_ifn (by omega)).trans (snd_if hc)) (by decide) (Same.refl H)⟩
  have hrun : (s'.run (.searchWithin i x y d)).2 = Kvg6.idsResult (Kvg6.search (s'.tree i) ⟨x - d, y - d, x + d, y + d⟩).1 ((Kvg6.search (s'.tree i) ⟨x - d, y - d, x + d, y + d⟩).2.filter fun item => decide (Kvg6.squaredDistance item.box (Kvg6.point x y) ≤ (d * d : Nat))) := (snd_ifn (by omega)).trans (snd_ifn (by rw [hc]; decide))
  refine ⟨_, rfl, _, rfl, _, rfl, _, _, rfl, rfl, _, rfl, _, rfl, _, _, rfl, rfl, _, rfl, _, rfl, _, _, rfl, rfl, _, rfl, _, rfl, _, _, rfl, rfl, by show 4 ≤ sizeLine; decide, fun q2 hq2 => ?_⟩
  have S2 := Same.upd (o := .tup [.int (x - (d : Int)), .int (y - (d : Int)), .int (x + (d : Int)), .int (y + (d : Int))]) hq2
  refine ⟨n, v, s'.tree i, q2, ⟨x - d, y - d, x + d, y + d⟩, rfl, (S1.trans S2).tree ht, hg, upd_same, fun r p xs its H3 hr3 hp3 S3 hr3' hxs hpi hperm hl => ?_⟩
  have S13 := (S1.trans S2).trans S3
  have hb2 := (S2.trans S3).box hbx
  refine ⟨r, _, rfl, .inl (.inl hr3'), rfl, _, _, rfl, _, _, rfl, rfl, ?_⟩
  refine ⟨_, rfl, _, rfl, _, _, rfl, rfl, .inl (by omega), ?_⟩
  refine ⟨_, rfl, _, rfl, p, rfl, ⟨_, .inl (.inl hxs)⟩, ?_⟩
  refine lc_li (R0 := ItemAt K H3) its (fun item => decide (Kvg6.squaredDistance item.box (Kvg6.point x y) ≤ (d * d : Nat))) (fun H' u it => ItemAt K H3 u it) hpi ?_ ?_ ?_ ?_ ?_ ?_ ?_
  · exact fun H2 S3 => .inl (.inl (S3 _ _ hxs))
  · exact Nat.lt_of_le_of_lt hl (by decide)
  · exact fun _ _ _ _ _ h => h
  · exact fun _ => rfl
  · intro x' z H4 hx _ S4 kf hk
    obtain ⟨u1, w1, r1, rfl, g1, gb⟩ := S4.item hx
    refine ⟨_, rfl, _, _, _, _, _, rfl, g1, (kcl_Item T).cl, no_Item_box T, itF_box, _, rfl, r1, q, z.box, _, rfl, gb, S4.box hb2, _, rfl, _, _, rfl, rfl, _, rfl, ?_⟩
    rw [← Int.natCast_mul]
    exact hk _ (Same.refl _)
  · exact fun x z H3 D acc hx _ _ S3 S3' hD kf hk => ⟨_, rfl, hk _ _ (Same.refl _) hx⟩
  · intro D H4 ys hD S4 hys hpy
    have hyl : ys.length ≤ xs.length := by
      rw [hpy.len, hpi.len]
      exact List.length_filter_le _ _
    refine ⟨_, D, ys, _, _, rfl, hys, Paired.impl (fun _ _ h => S4.item h) hpy, hperm.filter _, by omega, ?_⟩
    rw [← search_at hg]
    exact (k.new hrun (by omega)).same (S13.trans S4)
end
end BFW
namespace BFW
open PySem PySem.Spec PyProof.Rows L2 BFH
open Kvg6 (Box Item)
open BF (BoxOk ItOk)
section
variable {P : Program} {w : World} {K : PySem.W.Frag} {mg : Str → Option Value} {base : Heap}
theorem pairs_len {α : Type} {f : α → List Int} {n : Nat} (h : ∀ x, (f x).length = n) : ∀ l : List α, ((l.map f).flatten).length = l.length * n
  | [] => by simp
  | a :: l => by rw [List.map_cons, List.flatten_cons, List.length_append, h, pairs_len h l, List.length_cons, Nat.add_mul]; omega
theorem pairD_seq {H : Hp} {v : V} {z : Nat × Int} (h : PairD H v z) : SeqI H v [(z.1 : Int), z.2] := by
  obtain ⟨q, e, h⟩ := h
  exact ⟨q, e, .inr h⟩
theorem pairI_seq {H : Hp} {v : V} {z : Nat × Nat} (h : PairI H v z) : SeqI H v [(z.1 : Int), (z.2 : Int)] := by
  obtain ⟨q, e, h⟩ := h
  exact ⟨q, e, .inr h⟩
theorem _root_.L2.Same.seqI {H H' : Hp} {v : V} {ns : List Int} (S : Same H H') (h : SeqI H v ns) : SeqI H' v ns := by
  obtain ⟨q, e, h⟩ := h
  exact ⟨q, e, h.imp (S _ _) (S _ _)⟩
def spNearest (K : PySem.W.Frag) : Sp := fun vs H Q E => ∃ (f : Addr) (i : Nat) (x y : Int) (m : Nat) (s : Kvg6.Index), vs = [.ref f, .int i, .int x, .int y, .int m] ∧ ForestAt K H f s ∧ QOut K H (s.run (.nearest i x y m)).2 Q E
theorem sc_nearest : FnScope ["forest", "tree", "x", "y", "many", "root", "visited", "found"] ["forest", "tree", "x", "y", "many"] (defScope s_nearest) := ⟨rfl, rfl, rfl, by decide +kernel, rfl, by decide +kernel, by decide +kernel⟩
theorem k_nearest (T : Tx K mg) : KnX P w K mg base "nearest" 5 ["forest", "tree", "x", "y", "many"] (spNearest K) := by
  have F := T.fn1 77 (x := "nearest") (st := s_nearest) rfl
  have sc := sc_nearest
  let st : Stmt := s_nearest
  let nn : List Str := ["forest", "tree", "x", "y", "many", "root", "visited", "found"]
  refine ⟨F.okX sc (fun vs H Q E h => ?_) (fun cdv A outer s H vs Q E hr h => ?_), F.binds fun _ _ _ _ _ _ us hl => match us, hl with | [_, _, _, _, _], _ => rfl, F.kp, T.glo 64⟩

  · obtain ⟨f, i, x, y, d, s, rfl, _⟩ := h
    rfl
  obtain ⟨f, i, x, y, m, s', rfl, hf, k⟩ := h
  refine ⟨_, (pss_cons (ps_set (i := 5) sc.nd rfl (Or.inl rfl) (kmtX (k_Forest_root T) (pv 0) hr (pa_cons (pv 1) pa_nil) (passes_call (takes_of rfl rfl rfl rfl) fun _ _ _ _ h => h)))
      (pss_cons (ps_asg (kc (k_nearest_search T) hr (pa_cons (pv 5) (pa_cons (kcX (k_point_from T) hr (pa_cons (pv 2) (pa_cons (pv 3) pa_nil)) (passes_call (takes_of rfl rfl rfl rfl) fun _ _ _ _ h => h)) (pa_cons (pv 4) pa_nil)))) (pg_tup rfl (pgs_cons (pg_name (i := 6) sc.nd rfl (Or.inl rfl)) (pgs_cons (pg_name (i := 7) sc.nd rfl (Or.inl rfl)) pgs_nil))))
      (pss_one (ps_ret (pe_op op_cat (pe_lst (pa_cons (pv 6) (pa_cons (pe_callB call_len_seq (by rfl) (T.free 91) PySem.boot_len (pa_cons (pv 7) pa_nil)) pa_nil))) (kc (k_all_from T) hr (pa_cons (pv 7) pa_nil))))))), ?_⟩
  have hff := hf
  obtain ⟨dx, l, v1, v2, h1, _⟩ := hff
  refine ⟨_, rfl, f, dx, _, rfl, h1, foF_none (by decide +kernel), _, rfl, f, i, s', rfl, hf, fun hi v hv => ?_, fun hi => k.err (snd_if hi) (by decide) (Same.refl H)⟩
  obtain ⟨n, ht, hg⟩ := hv
  refine ⟨_, rfl, _, rfl, _, rfl, x, y, rfl, fun hc q H1 hq S1 hbx => ?_, fun hc => k.err ((snd_ifn (by omega)).trans (snd_if hc)) (by decide) (Same.refl H)⟩
  have hrun : (s'.run (.nearest i x y m)).2 = ⟨((Kvg6.nearest (s'.tree i) (Kvg6.point x y) m).1 : Nat), (((Kvg6.nearest (s'.tree i) (Kvg6.point x y) m).2.length : Nat) : Int) :: (Kvg6.nearest (s'.tree i) (Kvg6.point x y) m).2.flatMap fun q => [(q.1 : Int), q.2]⟩ := (snd_ifn (by omega)).trans (snd_ifn (by rw [hc]; decide))
  refine ⟨_, rfl, n, v, s'.tree i, q, _, m, rfl, S1.tree ht, hg, hbx, fun r p xs H2 hr2 hp2 S2 hr3 hxs hpd hl => ?_⟩
  rw [Int.toNat_natCast] at hr3 hpd
  generalize Kvg6.nearest (s'.tree i) (Kvg6.point x y) m = tot at *
  refine ⟨r, _, rfl, .inl (.inl hr3), rfl, _, _, rfl, _, _, rfl, rfl, ?_⟩
  refine ⟨_, rfl, _, rfl, p, xs, rfl, .inl (.inl (.inl hxs)), by show 2 ≤ sizeLine; decide, fun o ho => ?_⟩
  have S3 := Same.upd (o := .lst [.int (tot.1 : Nat), .int (xs.length : Nat)]) ho
  have ho1 := upd_same (H := H2) (a := o) (o := .lst [.int (tot.1 : Nat), .int (xs.length : Nat)])
  generalize upd H2 o (.lst [.int (tot.1 : Nat), .int (xs.length : Nat)]) = H3 at *
  have hpl := hpd.len
  have hfl := pairs_len (f := fun z : Nat × Int => [(z.1 : Int), z.2]) (n := 2) (fun _ => rfl) tot.2
  refine ⟨_, rfl, p, xs, tot.2.map fun z => [(z.1 : Int), z.2], rfl, S3 _ _ hxs, Paired.mapR (Paired.impl (fun _ _ h => S3.seqI (pairD_seq h)) hpd), by rw [hfl]; omega, fun q' H4 hq' S4 h4 => ?_⟩
  refine ⟨o, q', _, _, rfl, rfl, S4 _ _ ho1, h4, line_small (by rw [List.length_map, hfl]; show 2 + _ ≤ _; omega), fun r2 hr2' => ?_⟩
  have S14 := ((S1.trans S2).trans S3).trans S4
  refine k.new hrun (by omega) r2 _ (S14.free hr2') (S14.trans (Same.upd hr2')) ?_
  rw [upd_same, hpl]
  rfl
def spJAns : Sp := fun vs H Q _ => ∃ (vis : Nat) (a : Addr) (xs : List V) (zs : List (Nat × Nat)), vs = [.int vis, .ref a] ∧ H a = some (.lst xs) ∧ Paired (PairI H) xs zs ∧ xs.length ≤ 2304 ∧ NewInts H ((vis : Int) :: (Kvg6.pairsResult (vis, zs)).values) Q
theorem sc_join_answer : FnScope ["visited", "pairs"] ["visited", "pairs"] (defScope s_join_answer) := ⟨rfl, rfl, rfl, by decide +kernel, rfl, by decide +kernel, by decide +kernel⟩
theorem k_join_answer (T : Tx K mg) : Kn P w K mg base "join_answer" 2 ["visited", "pairs"] (spJAns) := by
  have F := T.fn1 78 (x := "join_answer") (st := s_join_answer) rfl
  have sc := sc_join_answer
  let st : Stmt := s_join_answer
  let nn : List Str := ["visited", "pairs"]
  refine ⟨F.ok sc (fun vs H Q E h => ?_) (fun cdv A outer s H vs Q E hr h => ?_), F.binds fun _ _ _ _ _ _ us hl => match us, hl with | [_, _], _ => rfl, F.kp, T.glo 65⟩

  · obtain ⟨vis, a, xs, zs, rfl, _⟩ := h
    rfl
  obtain ⟨vis, a, xs, zs, rfl, ha, hp, hl, k⟩ := h
  refine ⟨_, (pss_one (ps_ret (pe_op op_cat (pe_lst (pa_cons (pv 0) (pa_cons (pe_callB call_len_seq (by rfl) (T.free 91) PySem.boot_len (pa_cons (pv 1) pa_nil)) pa_nil))) (kc (k_all_from T) hr (pa_cons (pv 1) pa_nil))))), ?_⟩
  refine ⟨_, rfl, _, rfl, a, xs, rfl, .inl (.inl (.inl ha)), by show 2 ≤ sizeLine; decide, fun o ho => ?_⟩
  have S3 := Same.upd (o := .lst [.int vis, .int (xs.length : Nat)]) ho
  have ho1 := upd_same (H := H) (a := o) (o := .lst [.int vis, .int (xs.length : Nat)])
  generalize upd H o (.lst [.int vis, .int (xs.length : Nat)]) = H3 at *
  have hpl := hp.len
  have hfl := pairs_len (f := fun z : Nat × Nat => [(z.1 : Int), (z.2 : Int)]) (n := 2) (fun _ => rfl) zs
  refine ⟨_, rfl, a, xs, zs.map fun z => [(z.1 : Int), (z.2 : Int)], rfl, S3 _ _ ha, Paired.mapR (Paired.impl (fun _ _ h => S3.seqI (pairI_seq h)) hp), by rw [hfl]; omega, fun q' H4 hq' S4 h4 => ?_⟩
  refine ⟨o, q', _, _, rfl, rfl, S4 _ _ ho1, h4, line_small (by rw [List.length_map, hfl]; show 2 + _ ≤ _; omega), fun r2 hr2' => ?_⟩
  have S14 := S3.trans S4
  refine k r2 _ (S14.free hr2') (S14.trans (Same.upd hr2')) ?_
  rw [upd_same, hpl]
  rfl
theorem joinRes_eq {n m : Nat} {a b : Kvg6.Tree} (ga : BF.GoodAt n a) (gb : BF.GoodAt m b) {cond : Box → Box → Bool} {lim : Int} (hc : ∀ a b, BoxOk a → BoxOk b → cond a b = BF.within lim a b) : Kvg6.joinTrees cond a b = joinRes lim n a m b := BF.joinTrees_eq ga gb cond lim hc
def spJoinT (K : PySem.W.Frag) : Sp := fun vs H Q _ => ∃ (f : Addr) (d : Nat) (s : Kvg6.Index) (cond : Box → Box → Bool), vs = [.ref f, .int d] ∧ ForestAt K H f s ∧ d < 2 ^ 62 ∧ (∀ a b, BoxOk a → BoxOk b → cond a b = BF.within ((d : Int) * (d : Int)) a b) ∧
  NewInts H ((Kvg6.pairsResult (Kvg6.joinTrees cond s.first s.second)).code :: (Kvg6.pairsResult (Kvg6.joinTrees cond s.first s.second)).values) Q
theorem sc_join_trees : FnScope ["forest", "distance", "visited", "pairs"] ["forest", "distance"] (defScope s_join_trees) := ⟨rfl, rfl, rfl, by decide +kernel, rfl, by decide +kernel, by decide +kernel⟩
theorem k_join_trees (T : Tx K mg) : Kn P w K mg base "join_trees" 4 ["forest", "distance"] (spJoinT K) := by
  have F := T.fn1 79 (x := "join_trees") (st := s_join_trees) rfl
  have sc := sc_join_trees
  let st : Stmt := s_join_trees
  let nn : List Str := ["forest", "distance", "visited", "pairs"]
  refine ⟨F.ok sc (fun vs H Q E h => ?_) (fun cdv A outer s H vs Q E hr h => ?_), F.binds fun _ _ _ _ _ _ us hl => match us, hl with | [_, _], _ => rfl, F.kp, T.glo 66⟩

  · obtain ⟨f, d, s, c, rfl, _⟩ := h
    rfl
  obtain ⟨f, d, s', c, rfl, hf, hd, hc, k⟩ := h
  refine ⟨_, (pss_cons (ps_asg (kc (k_join_search T) hr (pa_cons (pe_ix ix_list (pe_fld (pv 0) rfl) pe_int (fun _ _ => rfl)) (pa_cons (pe_ix ix_list (pe_fld (pv 0) rfl) pe_int (fun _ _ => rfl)) (pa_cons (pe_op op_mul (pv 1) (pv 1)) pa_nil)))) (pg_tup rfl (pgs_cons (pg_name (i := 2) sc.nd rfl (Or.inl rfl)) (pgs_cons (pg_name (i := 3) sc.nd rfl (Or.inl rfl)) pgs_nil))))
      (pss_one (ps_ret (kc (k_join_answer T) hr (pa_cons (pv 2) (pa_cons (pv 3) pa_nil)))))), ?_⟩
  obtain ⟨dx, l, v1, v2, h1, h2, ⟨n, hv1, g1⟩, m, hv2, g2⟩ := hf
  rw [joinRes_eq g1 g2 hc] at k
  refine ⟨_, rfl, _, _, _, _, _, rfl, h1, (kcl_Forest T).cl, no_Forest_roots T, foF_roots, l, _, _, _, rfl, rfl, .inl (.inl h2), rfl, _, rfl, _, _, _, _, _, rfl, h1, (kcl_Forest T).cl, no_Forest_roots T, foF_roots, l, _, _, _, rfl, rfl, .inl (.inl h2), rfl, _, rfl, _, rfl, _, _, rfl, rfl, .inl (by omega), ?_⟩
  refine ⟨n, m, v1, v2, s'.first, s'.second, _, rfl, hv1, hv2, g1, g2, fun r p xs H2 hr2 hp2 S2 hr3 hxs hpi hl => ?_⟩
  refine ⟨r, _, rfl, .inl (.inl hr3), rfl, _, _, rfl, _, _, rfl, rfl, ?_⟩
  exact ⟨_, rfl, _, rfl, _, p, xs, _, rfl, hxs, hpi, by rw [hpi.len]; exact hl, k.same S2⟩
def spSelf (K : PySem.W.Frag) : Sp := fun vs H Q E => ∃ (f : Addr) (i : Nat) (s : Kvg6.Index), vs = [.ref f, .int i] ∧ ForestAt K H f s ∧ QOut K H (s.run (.selfJoin i)).2 Q E
theorem sc_self_join : FnScope ["forest", "tree", "root", "visited", "pairs", "pair"] ["forest", "tree"] (defScope s_self_join) := ⟨rfl, rfl, rfl, by decide +kernel, rfl, by decide +kernel, by decide +kernel⟩
theorem k_self_join (T : Tx K mg) : KnX P w K mg base "self_join" 5 ["forest", "tree"] (spSelf K) := by
  have F := T.fn1 81 (x := "self_join") (st := s_self_join) rfl
  have sc := sc_self_join
  let st : Stmt := s_self_join
  let nn : List Str := ["forest", "tree", "root", "visited", "pairs", "pair"]
  refine ⟨F.okX sc (fun vs H Q E h => ?_) (fun cdv A outer s H vs Q E hr h => ?_), F.binds fun _ _ _ _ _ _ us hl => match us, hl with | [_, _], _ => rfl, F.kp, T.glo 68⟩

  · obtain ⟨f, i, s, rfl, _⟩ := h
    rfl
  obtain ⟨f, i, s', rfl, hf, k⟩ := h
  refine ⟨_, (pss_cons (ps_set (i := 2) sc.nd rfl (Or.inl rfl) (kmtX (k_Forest_root T) (pv 0) hr (pa_cons (pv 1) pa_nil) (passes_call (takes_of rfl rfl rfl rfl) fun _ _ _ _ h => h)))
      (pss_cons (ps_asg (kc (k_join_search T) hr (pa_cons (pv 2) (pa_cons (pv 2) (pa_cons pe_int pa_nil)))) (pg_tup rfl (pgs_cons (pg_name (i := 3) sc.nd rfl (Or.inl rfl)) (pgs_cons (pg_name (i := 4) sc.nd rfl (Or.inl rfl)) pgs_nil))))
      (pss_one (ps_ret (kc (k_join_answer T) hr (pa_cons (pv 3) (pa_cons (pe_lc (own := [("pair", 5)]) (g := gName 5) rfl sc.nd (pi_list (pv 4)) (blkOk_by (N := nn) (sc := defScope st) (by decide +kernel)) (fun _ _ _ _ _ => (pg_name (i := 5) sc.nd rfl (Or.inl rfl))) (fun _ _ _ _ _ => (pts_one (pt_cmpR op_lt (pe_ix (ix_tupK (K := K) rfl) (pv 5) pe_int (fun _ _ => rfl)) (pe_ix (ix_tupK (K := K) rfl) (pv 5) pe_int (fun _ _ => rfl)) (nomark _)))) (fun _ _ _ _ _ => (pv 5))) pa_nil))))))), ?_⟩
  have hff := hf
  obtain ⟨dx, l, v1, v2, h1, _⟩ := hff
  refine ⟨_, rfl, f, dx, _, rfl, h1, foF_none (by decide +kernel), _, rfl, f, i, s', rfl, hf, fun hi v hv => ?_, fun hi => k.err (snd_if hi) (by decide) (Same.refl H)⟩
  obtain ⟨n, ht, hg⟩ := hv
  have hrun : (s'.run (.selfJoin i)).2 = Kvg6.pairsResult ((joinRes 0 n (s'.tree i) n (s'.tree i)).1, (joinRes 0 n (s'.tree i) n (s'.tree i)).2.filter fun q => decide (q.1 < q.2)) := by
    refine (snd_ifn (by omega)).trans ?_
    rw [joinRes_eq hg hg (lim := 0) (fun a b ha hb => BF.meets_iff ha hb)]
  refine ⟨_, rfl, _, rfl, n, n, v, v, s'.tree i, s'.tree i, 0, rfl, ht, ht, hg, hg, fun r p xs H2 hr2 hp2 S2 hr3 hxs hpi hl => ?_⟩
  generalize joinRes 0 n (s'.tree i) n (s'.tree i) = tot at *
  refine ⟨r, _, rfl, .inl (.inl hr3), rfl, _, _, rfl, _, _, rfl, rfl, ?_⟩
  refine ⟨_, rfl, _, rfl, p, rfl, ⟨_, .inl (.inl hxs)⟩, ?_⟩
  have hpl := hpi.len
  refine lc_li (R0 := PairI H2) tot.2 (fun q => decide (q.1 < q.2)) (fun H' u z => PairI H2 u z) hpi ?_ ?_ ?_ ?_ ?_ ?_ ?_
  · exact fun H3 S3 => .inl (.inl (S3 _ _ hxs))
  · exact Nat.lt_of_le_of_lt (show xs.length ≤ 2304 by omega) (by decide)
  · exact fun _ _ _ _ _ h => h
  · exact fun _ => rfl
  · intro x z H3 hx _ S3 kf hk
    obtain ⟨q, rfl, hq⟩ := hx
    have hq3 := S3 _ _ hq
    refine ⟨_, rfl, _, _, _, _, rfl, rfl, .inl (.inl hq3), rfl, _, rfl, _, _, _, _, rfl, rfl, .inl (.inl hq3), rfl, _, _, rfl, rfl, _, rfl, ?_⟩
    rw [show decide ((z.1 : Int) < (z.2 : Int)) = decide (z.1 < z.2) by simp]
    exact hk _ (Same.refl _)
  · exact fun x z H3 D acc hx _ _ S3 S3' hD kf hk => ⟨_, rfl, hk _ _ (Same.refl _) hx⟩
  · intro D H3 ys hD S3 hys hpy
    have hyl : ys.length ≤ 2304 := by
      rw [hpy.len]
      exact Nat.le_trans (List.length_filter_le _ _) hl
    exact ⟨_, D, ys, _, rfl, hys, Paired.impl (fun _ _ h => S3.pairI h) hpy, hyl, (k.new hrun (by omega)).same (S2.trans S3)⟩
end
end BFW
namespace BFW
open PySem PySem.Spec PyProof.Rows L2 BFH
open Kvg6 (Box Item)
open BF (BoxOk ItOk)
section
variable {P : Program} {w : World} {K : PySem.W.Frag} {mg : Str → Option Value} {base : Heap}
def spHilV (K : PySem.W.Frag) : Sp := fun vs H Q E => ∃ (a : Addr) (ns : List Int) (s : Kvg6.Index), vs = [.ref a] ∧ H a = some (.lst (ns.map V.int)) ∧ ns.length ≤ 300 ∧ QOut K H (s.run (.hilbertValue ns)).2 Q E
theorem sc_hilbert_value : FnScope ["values"] ["values"] (defScope s_hilbert_value) := ⟨rfl, rfl, rfl, by decide +kernel, rfl, by decide +kernel, by decide +kernel⟩
theorem k_hilbert_value (T : Tx K mg) : KnX P w K mg base "hilbert_value" 5 ["values"] (spHilV K) := by
  have F := T.fn1 87 (x := "hilbert_value") (st := s_hilbert_value) rfl
  have sc := sc_hilbert_value
  let st : Stmt := s_hilbert_value
  let nn : List Str := ["values"]
  refine ⟨F.okX sc (fun vs H Q E h => ?_) (fun cdv A outer s H vs Q E hr h => ?_), F.binds fun _ _ _ _ _ _ us hl => match us, hl with | [_], _ => rfl, F.kp, T.glo 74⟩

  · obtain ⟨a, ns, s, rfl, _⟩ := h
    rfl
  obtain ⟨a, ns, s', rfl, ha, h300, k⟩ := h
  refine ⟨_, (pss_one (ps_ret (pe_lst (pa_cons pe_int (pa_cons (kc (k_hilbert T) hr (pa_cons (kcX (k_box_from T) hr (pa_cons (pv 0) pa_nil) (passes_call (takes_of rfl rfl rfl rfl) fun _ _ _ _ h => h)) pa_nil)) pa_nil))))), ?_⟩
  have hrun : ∀ o : Option Box, Kvg6.boxOf ns = o → (s'.run (.hilbertValue ns)).2 = (match o with
    | none => .error (-22)
    | some b => ⟨0, [(Kvg6.hilbertOf b : Int)]⟩) := fun o ho => by
    subst ho
    show (match Kvg6.boxOf ns with
      | none => (s', Kvg6.Response.error (-22))
      | some b => (s', (⟨0, [(Kvg6.hilbertOf b : Int)]⟩ : Kvg6.Response))).2 = _
    cases Kvg6.boxOf ns <;> rfl
  refine ⟨_, rfl, a, ns, rfl, ha, h300, fun b hb q H1 hq S1 hbx => ⟨q, b, rfl, hbx, fun H2 S2 => ⟨by show 2 ≤ sizeLine; decide, fun r hr0 => ?_⟩⟩, fun hb => k.err (hrun _ hb) (by decide) (Same.refl H)⟩
  exact k.new (c := 0) (ns := [(Kvg6.hilbertOf b : Int)]) (hrun _ hb) (by decide) r _ ((S1.trans S2).free hr0) ((S1.trans S2).trans (Same.upd hr0)) upd_same
def spCheck (K : PySem.W.Frag) : Sp := fun vs H Q E => ∃ (size : Nat) (q : Addr) (e : Box), vs = [.int size, .ref q] ∧ BoxAt H q e ∧ ((size = 0 ∨ 8 < size ∨ e.x0 = e.x1 ∨ e.y0 = e.y1) → Err K E H (-22)) ∧ (¬ (size = 0 ∨ 8 < size ∨ e.x0 = e.x1 ∨ e.y0 = e.y1) → Q .non H)
theorem sc_check_cells : FnScope ["size", "extent"] ["size", "extent"] (defScope s_check_cells) := ⟨rfl, rfl, rfl, by decide +kernel, rfl, by decide +kernel, by decide +kernel⟩
theorem k_check_cells (T : Tx K mg) : KnX P w K mg base "check_cells" 4 ["size", "extent"] (spCheck K) := by
  have F := T.fn1 88 (x := "check_cells") (st := s_check_cells) rfl
  have sc := sc_check_cells
  obtain ⟨tMOST_SIZE, gMOST_SIZE⟩ := T.int 118 (x := "MOST_SIZE") rfl
  obtain ⟨tOUT_OF_RANGE, gOUT_OF_RANGE⟩ := T.int 107 (x := "OUT_OF_RANGE") rfl
  let st : Stmt := s_check_cells
  let nn : List Str := ["size", "extent"]
  refine ⟨F.okX sc (fun vs H Q E h => ?_) (fun cdv A outer s H vs Q E hr h => ?_), F.binds fun _ _ _ _ _ _ us hl => match us, hl with | [_, _], _ => rfl, F.kp, T.glo 75⟩

  · obtain ⟨size, q, e, rfl, _⟩ := h
    rfl
  obtain ⟨size, q, e, rfl, hq, k1, k2⟩ := h
  refine ⟨_, (pss_cons (ps_expr (kcX (k_need T) hr (pa_cons (pe_chain op_le op_le pe_int (pv 0) (pe_glob (v := .int (8)) rfl gMOST_SIZE ⟨_, rfl⟩)) (pa_cons (pe_glob (v := .int (-22)) rfl gOUT_OF_RANGE ⟨_, rfl⟩) pa_nil)) (passes_call (takes_of rfl rfl rfl rfl) fun _ _ _ _ h => h)))
      (pss_one (ps_expr (kcX (k_need T) hr (pa_cons (pe_and (pe_cmpR op_lt (pe_ix ix_tup (pv 1) pe_int (fun _ _ => rfl)) (pe_ix ix_tup (pv 1) pe_int (fun _ _ => rfl)) (nomark _)) (pe_one (pe_cmpR op_lt (pe_ix ix_tup (pv 1) pe_int (fun _ _ => rfl)) (pe_ix ix_tup (pv 1) pe_int (fun _ _ => rfl)) (nomark _)))) (pa_cons (pe_glob (v := .int (-22)) rfl gOUT_OF_RANGE ⟨_, rfl⟩) pa_nil)) (passes_call (takes_of rfl rfl rfl rfl) fun _ _ _ _ h => h))))), ?_⟩
  obtain ⟨⟨b1, b2, b3⟩, b4, b5, b6⟩ := hq.2
  have hq1 := hq.1
  refine ⟨_, rfl, _, _, rfl, rfl, _, rfl, ?_⟩
  by_cases c1 : (1 : Int) ≤ (size : Int)
  · rw [decide_eq_true c1]
    refine iteT ⟨_, _, rfl, rfl, decide ((size : Int) ≤ 8), -22, rfl, fun c => ?_, fun c => k1 (by have := of_decide_eq_false c; omega)⟩
    have c2 : (size : Int) ≤ 8 := of_decide_eq_true c
    refine ⟨_, rfl, _, _, _, _, rfl, rfl, .inl (.inl hq1), rfl, _, rfl, _, _, _, _, rfl, rfl, .inl (.inl hq1), rfl, _, _, rfl, rfl, _, rfl, ?_⟩
    by_cases c3 : e.x0 < e.x1
    · rw [decide_eq_true c3]
      exact iteT ⟨_, rfl, _, _, _, _, rfl, rfl, .inl (.inl hq1), rfl, _, rfl, _, _, _, _, rfl, rfl, .inl (.inl hq1), rfl, _, _, rfl, rfl, decide (e.y0 < e.y1), -22, rfl, fun c => k2 (by have := of_decide_eq_true c; omega), fun c => k1 (by have := of_decide_eq_false c; omega)⟩
    · rw [decide_eq_false c3]
      exact iteF ⟨false, -22, rfl, fun z => (by cases z), fun _ => k1 (by omega)⟩
  · rw [decide_eq_false c1]
    exact iteF ⟨false, -22, rfl, fun z => (by cases z), fun _ => k1 (by omega)⟩
def spHistA (K : PySem.W.Frag) : Sp := fun vs H Q E => ∃ (f a : Addr) (i size : Nat) (ns : List Int) (s : Kvg6.Index), vs = [.ref f, .int i, .int size, .ref a] ∧ ForestAt K H f s ∧ H a = some (.lst (ns.map V.int)) ∧ ns.length ≤ 300 ∧ QOut K H (s.run (.histogram i size ns)).2 Q E
theorem sc_histogram_answer : FnScope ["forest", "tree", "size", "values", "root", "extent", "numbers"] ["forest", "tree", "size", "values"] (defScope s_histogram_answer) := ⟨rfl, rfl, rfl, by decide +kernel, rfl, by decide +kernel, by decide +kernel⟩
theorem k_histogram_answer (T : Tx K mg) : KnX P w K mg base "histogram_answer" 9 ["forest", "tree", "size", "values"] (spHistA K) := by
  have F := T.fn1 89 (x := "histogram_answer") (st := s_histogram_answer) rfl
  have sc := sc_histogram_answer
  let st : Stmt := s_histogram_answer
  let nn : List Str := ["forest", "tree", "size", "values", "root", "extent", "numbers"]
  refine ⟨F.okX sc (fun vs H Q E h => ?_) (fun cdv A outer s H vs Q E hr h => ?_), F.binds fun _ _ _ _ _ _ us hl => match us, hl with | [_, _, _, _], _ => rfl, F.kp, T.glo 76⟩

  · obtain ⟨f, a, i, size, ns, s, rfl, _⟩ := h
    rfl
  obtain ⟨f, a, i, size, ns, s', rfl, hf, ha, h300, k⟩ := h
  refine ⟨_, (pss_cons (ps_set (i := 4) sc.nd rfl (Or.inl rfl) (kmtX (k_Forest_root T) (pv 0) hr (pa_cons (pv 1) pa_nil) (passes_call (takes_of rfl rfl rfl rfl) fun _ _ _ _ h => h)))
      (pss_cons (ps_set (i := 5) sc.nd rfl (Or.inl rfl) (kcX (k_box_from T) hr (pa_cons (pv 3) pa_nil) (passes_call (takes_of rfl rfl rfl rfl) fun _ _ _ _ h => h)))
      (pss_cons (ps_expr (kcX (k_check_cells T) hr (pa_cons (pv 2) (pa_cons (pv 5) pa_nil)) (passes_call (takes_of rfl rfl rfl rfl) fun _ _ _ _ h => h)))
      (pss_cons (ps_set (i := 6) sc.nd rfl (Or.inl rfl) (kc (k_histogram T) hr (pa_cons (kc (k_items_below T) hr (pa_cons (pv 4) pa_nil)) (pa_cons (pv 2) (pa_cons (pv 5) pa_nil)))))
      (pss_one (ps_ret (pe_op op_cat (pe_lst (pa_cons (pe_callB call_len_seq (by rfl) (T.free 91) PySem.boot_len (pa_cons (pv 6) pa_nil)) pa_nil)) (pv 6)))))))), ?_⟩
  have hff := hf
  obtain ⟨dx, l, v1, v2, h1, _⟩ := hff
  refine ⟨_, rfl, f, dx, _, rfl, h1, foF_none (by decide +kernel), _, rfl, f, i, s', rfl, hf, fun hi v hv => ?_, fun hi => k.err (snd_if hi) (by decide) (Same.refl H)⟩
  obtain ⟨n, ht, hg⟩ := hv
  have hl := hg.low
  refine ⟨_, rfl, a, ns, rfl, ha, h300, fun e he q H1 hq S1 hbx => ?_, fun hb => k.err ((snd_ifn (by omega)).trans (by rw [hb])) (by decide) (Same.refl H)⟩
  have hrun : (s'.run (.histogram i size ns)).2 = if size = 0 ∨ 8 < size ∨ e.x0 = e.x1 ∨ e.y0 = e.y1 then .error (-22) else Kvg6.Response.list (Kvg6.histogram (s'.tree i).items size e) := by
    refine (snd_ifn (by omega)).trans ?_
    rw [he]
    dsimp only
    split <;> rfl
  refine ⟨_, rfl, _, rfl, size, q, e, rfl, hbx, fun c => k.err (by rw [hrun, if_pos c]) (by decide) S1, fun c => ?_⟩
  rw [if_neg c] at hrun
  obtain ⟨⟨b1, b2, b3⟩, b4, b5, b6⟩ := hbx.2
  have h1s : 1 ≤ size := by omega
  have h8 : size ≤ 8 := by omega
  refine ⟨_, rfl, n, v, _, H, by omega, rfl, S1, ht, fun p xs H2 hp2 S2 hxs hpx => ?_⟩
  refine ⟨_, rfl, _, rfl, p, q, xs, _, size, e, rfl, hxs, Paired.impl (fun _ _ h => (S1.trans S2).item h) hpx, S2.box hbx, h1s, h8, by omega, by omega, fun g H3 hg3 S3 h3 => ?_⟩
  have hlen := BF.hist_len (Kvg6.itemsOfTree n (s'.tree i)) size e
  have hsq : size * size ≤ 64 := Nat.mul_le_mul h8 h8
  refine ⟨_, rfl, g, _, rfl, .inl (.inl (.inl h3)), by show 1 ≤ sizeLine; decide, fun o ho => ?_⟩
  have S4 := Same.upd (o := .lst [.int ((((Kvg6.histogram (Kvg6.itemsOfTree n (s'.tree i)) size e).map fun n : Nat => (n : Int)).map V.int).length : Nat)]) ho
  refine ⟨_, rfl, o, g, _, _, rfl, rfl, upd_same, S4 _ _ h3, line_small (by rw [List.length_map, List.length_map, hlen]; show 1 + _ ≤ _; omega), fun r hr0 => ?_⟩
  have S14 := ((S1.trans S2).trans S3).trans S4
  refine k.new hrun (by omega) r _ (S14.free hr0) (S14.trans (Same.upd hr0)) ?_
  rw [upd_same, List.length_map, List.length_map, hg.items]
  rfl
def spChoose (K : PySem.W.Frag) : Sp := fun vs H Q E => ∃ (f a : Addr) (i : Nat) (ns : List Int) (s : Kvg6.Index), vs = [.ref f, .int i, .ref a] ∧ ForestAt K H f s ∧ H a = some (.lst (ns.map V.int)) ∧ ns.length ≤ 300 ∧ QOut K H (s.run (.chooseNode i ns)).2 Q E
theorem path_len : ∀ (m : Nat) (b : Box) (t : Kvg6.Tree), (Kvg6.pathOf b m t).length ≤ m
  | 0, b, t => by cases t <;> exact Nat.le_refl _
  | m + 1, b, .leaf _ => Nat.zero_le _
  | m + 1, b, .node ch => by
    show (Kvg6.chooseChild (ch.map Kvg6.Tree.box) b :: (match ch[Kvg6.chooseChild (ch.map Kvg6.Tree.box) b]? with
      | some child => Kvg6.pathOf b m child
      | none => [])).length ≤ m + 1
    rw [List.length_cons]
    cases ch[Kvg6.chooseChild (ch.map Kvg6.Tree.box) b]? with
    | none => exact Nat.succ_le_succ (Nat.zero_le _)
    | some c => exact Nat.succ_le_succ (path_len m b c)
theorem sc_choose_node : FnScope ["forest", "tree", "values", "root", "path"] ["forest", "tree", "values"] (defScope s_choose_node) := ⟨rfl, rfl, rfl, by decide +kernel, rfl, by decide +kernel, by decide +kernel⟩
theorem k_choose_node (T : Tx K mg) : KnX P w K mg base "choose_node" 5 ["forest", "tree", "values"] (spChoose K) := by
  have F := T.fn1 91 (x := "choose_node") (st := s_choose_node) rfl
  have sc := sc_choose_node
  let st : Stmt := s_choose_node
  let nn : List Str := ["forest", "tree", "values", "root", "path"]
  refine ⟨F.okX sc (fun vs H Q E h => ?_) (fun cdv A outer s H vs Q E hr h => ?_), F.binds fun _ _ _ _ _ _ us hl => match us, hl with | [_, _, _], _ => rfl, F.kp, T.glo 78⟩

  · obtain ⟨f, a, i, ns, s, rfl, _⟩ := h
    rfl
  obtain ⟨f, a, i, ns, s', rfl, hf, ha, h300, k⟩ := h
  refine ⟨_, (pss_cons (ps_set (i := 3) sc.nd rfl (Or.inl rfl) (kmtX (k_Forest_root T) (pv 0) hr (pa_cons (pv 1) pa_nil) (passes_call (takes_of rfl rfl rfl rfl) fun _ _ _ _ h => h)))
      (pss_cons (ps_set (i := 4) sc.nd rfl (Or.inl rfl) (kc (k_path_for T) hr (pa_cons (pv 3) (pa_cons (kcX (k_box_from T) hr (pa_cons (pv 2) pa_nil) (passes_call (takes_of rfl rfl rfl rfl) fun _ _ _ _ h => h)) pa_nil))))
      (pss_one (ps_ret (pe_op op_cat (pe_lst (pa_cons (pe_callB call_len_seq (by rfl) (T.free 91) PySem.boot_len (pa_cons (pv 4) pa_nil)) pa_nil)) (pv 4)))))), ?_⟩
  have hff := hf
  obtain ⟨dx, l, v1, v2, h1, _⟩ := hff
  refine ⟨_, rfl, f, dx, _, rfl, h1, foF_none (by decide +kernel), _, rfl, f, i, s', rfl, hf, fun hi v hv => ?_, fun hi => k.err (snd_if hi) (by decide) (Same.refl H)⟩
  obtain ⟨n, ht, hg⟩ := hv
  have hl := hg.low
  refine ⟨_, rfl, _, rfl, a, ns, rfl, ha, h300, fun b hb q H1 hq S1 hbx => ?_, fun hb => k.err ((snd_ifn (by omega)).trans (by rw [hb])) (by decide) (Same.refl H)⟩
  refine ⟨n, v, _, q, b, rfl, by omega, S1.tree ht, hg.root.ne, hbx, fun g H3 hg3 S3 h3 => ?_⟩
  have hrun : (s'.run (.chooseNode i ns)).2 = Kvg6.Response.list (Kvg6.pathOf b n (s'.tree i)) := by
    refine (snd_ifn (by omega)).trans ?_
    rw [hb, ← BF.path_fuel b n (s'.tree i) hg.root.ne Kvg6.fuel (by show n ≤ 16; omega)]
  have hlen := path_len n b (s'.tree i)
  generalize Kvg6.pathOf b n (s'.tree i) = pth at *
  refine ⟨_, rfl, g, _, rfl, .inl (.inl (.inl h3)), by show 1 ≤ sizeLine; decide, fun o ho => ?_⟩
  have S4 := Same.upd (o := .lst [.int (((pth.map fun i => V.int (i : Nat)).length : Nat))]) ho
  refine ⟨_, rfl, o, g, _, _, rfl, rfl, upd_same, S4 _ _ h3, line_small (by rw [List.length_map]; show 1 + _ ≤ _; omega), fun r hr0 => ?_⟩
  have S14 := (S1.trans S3).trans S4
  refine k.new hrun (by omega) r _ (S14.free hr0) (S14.trans (Same.upd hr0)) ?_
  rw [upd_same, List.length_map]
  unfold Kvg6.ints
  rw [List.map_cons, List.map_map]
  rfl
def spEstA (K : PySem.W.Frag) : Sp := fun vs H Q E => ∃ (f a a2 : Addr) (i size : Nat) (ns ms : List Int) (s : Kvg6.Index), vs = [.ref f, .int i, .int size, .ref a, .ref a2] ∧ ForestAt K H f s ∧ H a = some (.lst (ns.map V.int)) ∧ H a2 = some (.lst (ms.map V.int)) ∧ ns.length ≤ 300 ∧ ms.length ≤ 300 ∧ QOut K H (s.run (.estimate i size ns ms)).2 Q E
theorem sc_estimate_answer : FnScope ["forest", "tree", "size", "values", "window_values", "root", "extent", "window", "numbers"] ["forest", "tree", "size", "values", "window_values"] (defScope s_estimate_answer) := ⟨rfl, rfl, rfl, by decide +kernel, rfl, by decide +kernel, by decide +kernel⟩
theorem k_estimate_answer (T : Tx K mg) : KnX P w K mg base "estimate_answer" 9 ["forest", "tree", "size", "values", "window_values"] (spEstA K) := by
  have F := T.fn1 90 (x := "estimate_answer") (st := s_estimate_answer) rfl
  have sc := sc_estimate_answer
  let st : Stmt := s_estimate_answer
  let nn : List Str := ["forest", "tree", "size", "values", "window_values", "root", "extent", "window", "numbers"]
  refine ⟨F.okX sc (fun vs H Q E h => ?_) (fun cdv A outer s H vs Q E hr h => ?_), F.binds fun _ _ _ _ _ _ us hl => match us, hl with | [_, _, _, _, _], _ => rfl, F.kp, T.glo 77⟩

  · obtain ⟨f, a, a2, i, size, ns, ms, s, rfl, _⟩ := h
    rfl
  obtain ⟨f, a, a2, i, size, ns, ms, s', rfl, hf, ha, ha2, h300, h300b, k⟩ := h
  refine ⟨_, (pss_cons (ps_set (i := 5) sc.nd rfl (Or.inl rfl) (kmtX (k_Forest_root T) (pv 0) hr (pa_cons (pv 1) pa_nil) (passes_call (takes_of rfl rfl rfl rfl) fun _ _ _ _ h => h)))
      (pss_cons (ps_par (i := 6) (j := 7) rfl sc.nd rfl rfl (by decide) rfl rfl (pa_cons (kcX (k_box_from T) hr (pa_cons (pv 3) pa_nil) (passes_call (takes_of rfl rfl rfl rfl) fun _ _ _ _ h => h)) (pa_cons (kcX (k_box_from T) hr (pa_cons (pv 4) pa_nil) (passes_call (takes_of rfl rfl rfl rfl) fun _ _ _ _ h => h)) pa_nil)) (by rfl))
      (pss_cons (ps_expr (kcX (k_check_cells T) hr (pa_cons (pv 2) (pa_cons (pv 6) pa_nil)) (passes_call (takes_of rfl rfl rfl rfl) fun _ _ _ _ h => h)))
      (pss_cons (ps_set (i := 8) sc.nd rfl (Or.inl rfl) (kc (k_histogram T) hr (pa_cons (kc (k_items_below T) hr (pa_cons (pv 5) pa_nil)) (pa_cons (pv 2) (pa_cons (pv 6) pa_nil)))))
      (pss_one (ps_ret (pe_op op_cat (pe_lst (pa_cons pe_int pa_nil)) (pe_callTy call_list_of (by rfl) (T.free 100) boot_list (pa_cons (kc (k_estimate T) hr (pa_cons (pv 8) (pa_cons (pv 2) (pa_cons (pv 6) (pa_cons (pv 7) pa_nil))))) pa_nil))))))))), ?_⟩
  have hff := hf
  obtain ⟨dx, l, v1, v2, h1, _⟩ := hff
  refine ⟨_, rfl, f, dx, _, rfl, h1, foF_none (by decide +kernel), _, rfl, f, i, s', rfl, hf, fun hi v hv => ?_, fun hi => k.err (snd_if hi) (by decide) (Same.refl H)⟩
  obtain ⟨n, ht, hg⟩ := hv
  have hl := hg.low
  refine ⟨_, rfl, a, ns, rfl, ha, h300, fun e he q H1 hq S1 hbx => ?_, fun hb => k.err ((snd_ifn (by omega)).trans (by rw [hb])) (by decide) (Same.refl H)⟩
  refine ⟨_, rfl, a2, ms, rfl, S1 _ _ ha2, h300b, fun wd hw q2 H2 hq2 S2 hbx2 => ?_, fun hb => k.err ((snd_ifn (by omega)).trans (by rw [he, hb])) (by decide) S1⟩
  have S12 := S1.trans S2
  have hrun : (s'.run (.estimate i size ns ms)).2 = if size = 0 ∨ 8 < size ∨ e.x0 = e.x1 ∨ e.y0 = e.y1 then .error (-22) else ⟨0, [(Kvg6.estimate (s'.tree i).items size e wd).num, ((Kvg6.estimate (s'.tree i).items size e wd).den : Int)]⟩ := by
    refine (snd_ifn (by omega)).trans ?_
    rw [he, hw]
    dsimp only
    split <;> rfl
  refine ⟨_, _, rfl, _, rfl, _, rfl, size, q, e, rfl, S2.box hbx, fun c => k.err (by rw [hrun, if_pos c]) (by decide) S12, fun c => ?_⟩
  rw [if_neg c] at hrun
  obtain ⟨⟨b1, b2, b3⟩, b4, b5, b6⟩ := hbx.2
  have h1s : 1 ≤ size := by omega
  have h8 : size ≤ 8 := by omega
  refine ⟨_, rfl, n, v, _, H, by omega, rfl, S12, ht, fun p xs H3 hp3 S3 hxs hpx => ?_⟩
  have S13 := S12.trans S3
  refine ⟨_, rfl, _, rfl, p, q, xs, _, size, e, rfl, hxs, Paired.impl (fun _ _ h => S13.item h) hpx, (S2.trans S3).box hbx, h1s, h8, by omega, by omega, fun g H4 hg4 S4 h4 => ?_⟩
  rw [nV_ints] at h4
  refine ⟨by show 1 ≤ sizeLine; decide, fun o ho => ?_⟩
  have S5 := Same.upd (o := .lst [.int 0]) ho
  have ho1 := upd_same (H := H4) (a := o) (o := .lst [.int 0])
  generalize upd H4 o (.lst [.int 0]) = H5 at *
  have S25 := (S3.trans S4).trans S5
  refine ⟨_, rfl, _, rfl, _, rfl, _, rfl, g, q, q2, _, size, e, wd, rfl, S5 _ _ h4, (S2.trans S25).box hbx, S25.box hbx2, hg.size, h1s, h8, by omega, by omega, fun u H6 hu S6 h6 => ?_⟩
  refine ⟨u, _, rfl, .inr (.inl (.inl h6)), fun g2 hg2 => ?_⟩
  have S7 := Same.upd (o := .lst [.int (Kvg6.estimate (Kvg6.itemsOfTree n (s'.tree i)) size e wd).num, .int ((Kvg6.estimate (Kvg6.itemsOfTree n (s'.tree i)) size e wd).den : Nat)]) hg2
  refine ⟨o, g2, _, _, rfl, rfl, S7 _ _ (S6 _ _ ho1), upd_same, by show 1 + 2 ≤ sizeLine; decide, fun r hr0 => ?_⟩
  have S17 := ((S12.trans S25).trans S6).trans S7
  refine k.new hrun (by decide) r _ (S17.free hr0) (S17.trans (Same.upd hr0)) ?_
  rw [upd_same, hg.items]
  rfl
end
end BFW
namespace BFW
open PySem PySem.Spec PyProof.Rows L2 BFH
open Kvg6 (Box Item)
open BF (BoxOk ItOk)
section
variable {P : Program} {w : World} {K : PySem.W.Frag} {mg : Str → Option Value} {base : Heap}
def spRow (K : PySem.W.Frag) : Sp := fun vs H Q _ => ∃ (n : Nat) (v : V) (t : Kvg6.Tree) (G : Hp), vs = [v] ∧ Same G H ∧ TreeV K G n v t ∧ NewInts H (Kvg6.nodeValues (n + 1, t)) Q
theorem sc_node_row : FnScope ["node", "numbers", "item"] ["node"] (defScope s_node_row) := ⟨rfl, rfl, rfl, by decide +kernel, rfl, by decide +kernel, by decide +kernel⟩
theorem k_node_row (T : Tx K mg) : Kn P w K mg base "node_row" 1 ["node"] (spRow K) := by
  have F := T.fn1 82 (x := "node_row") (st := s_node_row) rfl
  have sc := sc_node_row
  let st : Stmt := s_node_row
  let nn : List Str := ["node", "numbers", "item"]
  refine ⟨F.ok sc (fun vs H Q E h => ?_) (fun cdv A outer s H vs Q E hr h => ?_), F.binds fun _ _ _ _ _ _ us hl => match us, hl with | [_], _ => rfl, F.kp, T.glo 69⟩

  · obtain ⟨n, v, t, G, rfl, _⟩ := h
    rfl
  obtain ⟨n, v, t, G, rfl, SG, ht, k⟩ := h
  refine ⟨_, (pss_cons (ps_set (i := 1) sc.nd rfl (Or.inl rfl) (pe_ifExp (pt_cmpR op_eq (pe_fld (pv 0) rfl) pe_int (nomark _)) (pe_lc (own := [("item", 2)]) (g := gName 2) (tt := tYes) rfl sc.nd (pi_list (pe_fld (pv 0) rfl)) (blkOk_by (N := nn) (sc := defScope st) (by decide +kernel)) (fun _ _ _ _ _ => (pg_name (i := 2) sc.nd rfl (Or.inl rfl))) (fun _ _ _ _ _ => pts_nil) (fun _ _ _ _ _ => (pe_fldK (K := K) rfl (pv 2) rfl))) (pe_lst pa_nil)))
      (pss_one (ps_ret (pe_op op_cat (pe_lst (pa_cons (pe_fld (pv 0) rfl) (pa_cons (pe_callB call_len_seq (by rfl) (T.free 91) PySem.boot_len (pa_cons (pe_fld (pv 0) rfl) pa_nil)) pa_nil))) (pv 1))))), ?_⟩
  obtain ⟨p, dx, e, bv, xs, rfl, ta⟩ := ht.at_
  have h4 := ta.four
  have hk := ta.kids
  refine ⟨_, rfl, _, _, _, _, _, rfl, SG _ _ ta.node, (kcl_Node T).cl, no_Node_level T, ndF_level, rfl, _, rfl, ?_⟩
  cases t with
  | leaf items =>
    obtain ⟨rfl, hk⟩ := hk
    rw [decide_eq_true (by rfl)]
    refine iteT ⟨_, rfl, _, _, _, _, _, rfl, SG _ _ ta.node, (kcl_Node T).cl, no_Node_entries T, ndF_entries, e, rfl, ⟨_, .inl (.inl (SG _ _ ta.list))⟩, ?_⟩
    refine lc_li (R0 := ItemAt K G) items (fun _ => true) (fun H' u it => u = .int (it.id : Int)) hk ?_ ?_ ?_ ?_ ?_ ?_ ?_
    · exact fun H2 S2 => .inl (.inl (S2 _ _ (SG _ _ ta.list)))
    · exact Nat.lt_of_le_of_lt h4 (by decide)
    · exact fun _ _ _ _ _ h => h
    · exact fun _ => rfl
    · exact fun x z H3 _ _ _ kf hk => hk _ (Same.refl _)
    · intro x z H3 D acc hx _ _ S3 S3' hD kf hk
      obtain ⟨u1, w1, r1, rfl, g1, gb⟩ := (SG.trans S3).item hx
      exact ⟨_, rfl, _, _, _, _, _, rfl, g1, (kcl_Item T).cl, no_Item_number T, itF_number, hk _ _ (Same.refl _) rfl⟩
    · intro D H3 ys hD S3 hys hpy
      rw [List.filter_eq_self.mpr fun _ _ => rfl] at hpy
      have ey := paired_eq hpy
      have S03 := SG.trans S3
      refine ⟨_, rfl, _, _, _, _, _, rfl, S03 _ _ ta.node, (kcl_Node T).cl, no_Node_level T, ndF_level, _, rfl, _, _, _, _, _, rfl, S03 _ _ ta.node, (kcl_Node T).cl, no_Node_entries T, ndF_entries, e, xs, rfl, .inl (.inl (.inl (S03 _ _ ta.list))), by show 2 ≤ sizeLine; decide, fun o ho => ?_⟩
      have S4 := Same.upd (o := .lst [.int (((0 : Nat) : Int) + 1), .int (xs.length : Nat)]) ho
      have hyl : ys.length ≤ 4 := by rw [ey, List.length_map, ← hk.len]; exact h4
      refine ⟨_, rfl, o, D, _, ys, rfl, rfl, upd_same, S4 _ _ hys, line_small (by show 2 + ys.length ≤ _; omega), fun r hr0 => ?_⟩
      refine k r _ ((S3.trans S4).free hr0) ((S3.trans S4).trans (Same.upd hr0)) ?_
      rw [upd_same, ey, hk.len]
      show _ = some (HO.lst ((([((0 + 1 : Nat) : Int), (items.length : Int)] ++ items.map fun it => (it.id : Int))).map V.int))
      rw [List.map_append, List.map_map]
      rfl
  | node ch =>
    obtain ⟨m, rfl, hk⟩ := hk
    rw [decide_eq_false (fun z => by injection z with z; omega)]
    refine iteF ⟨Nat.zero_le _, fun D hD => ?_⟩
    have S3 := Same.upd (o := .lst []) hD
    have hys := upd_same (H := H) (a := D) (o := .lst [])
    generalize upd H D (.lst []) = H3 at *
    have S03 := SG.trans S3
    refine ⟨_, rfl, _, _, _, _, _, rfl, S03 _ _ ta.node, (kcl_Node T).cl, no_Node_level T, ndF_level, _, rfl, _, _, _, _, _, rfl, S03 _ _ ta.node, (kcl_Node T).cl, no_Node_entries T, ndF_entries, e, xs, rfl, .inl (.inl (.inl (S03 _ _ ta.list))), by show 2 ≤ sizeLine; decide, fun o ho => ?_⟩
    have S4 := Same.upd (o := .lst [.int (((m + 1 : Nat) : Int) + 1), .int (xs.length : Nat)]) ho
    refine ⟨_, rfl, o, D, _, [], rfl, rfl, upd_same, S4 _ _ hys, by show 2 + 0 ≤ sizeLine; decide, fun r hr0 => ?_⟩
    refine k r _ ((S3.trans S4).free hr0) ((S3.trans S4).trans (Same.upd hr0)) ?_
    rw [upd_same, hk.len]
    rfl
def spDesc (K : PySem.W.Frag) : Sp := fun vs H Q E => ∃ (f : Addr) (i : Nat) (s : Kvg6.Index), vs = [.ref f, .int i] ∧ ForestAt K H f s ∧ QOut K H (s.run (.describe i)).2 Q E
theorem row_le {n : Nat} {t : Kvg6.Tree} (h : BF.Thin n t) (j : Nat) : (Kvg6.nodeValues (j, t)).length ≤ 6 := by
  cases t with
  | leaf items =>
    have : items.length ≤ 4 := by cases n <;> first | exact h | exact h.elim
    show ([_, _] ++ items.map _).length ≤ 6
    rw [List.length_append, List.length_map]
    show 2 + _ ≤ 6
    omega
  | node ch => show 2 ≤ 6; decide
theorem flat_le {α : Type} {f : α → List Int} {B : Nat} : ∀ {l : List α}, (∀ x ∈ l, (f x).length ≤ B) → ((l.map f).flatten).length ≤ l.length * B
  | [], _ => by simp
  | a :: l, h => by
    rw [List.map_cons, List.flatten_cons, List.length_append, List.length_cons, Nat.add_mul]
    have := flat_le (f := f) fun x hx => h x (List.mem_cons_of_mem _ hx)
    have := h a List.mem_cons_self
    omega
theorem sub_thin_all {xs : List V} {G : Hp} {l : List (Nat × Kvg6.Tree)} (hp : Paired (SubV K G) xs l) : ∀ q ∈ l, BF.Thin q.1 q.2 := by
  intro q hq
  obtain ⟨i, hi⟩ := List.getElem?_of_mem hq
  obtain ⟨x, _, r⟩ := hp.get2 hi
  exact TreeV.thin (show TreeV K G q.1 x q.2 from r)
theorem sub_lv {n : Nat} {t : Kvg6.Tree} (g : BF.GoodAt n t) : (BF.sub n t).map (fun q => (q.1 + 1, q.2)) = Kvg6.levelsOf Kvg6.fuel t := BF.sub_levels n t g.root.ne (by have := g.low; omega) _ (by have := g.low; show n ≤ 16; omega) (Nat.le_refl 16)
theorem sc_describe : FnScope ["forest", "tree", "nodes", "node"] ["forest", "tree"] (defScope s_describe) := ⟨rfl, rfl, rfl, by decide +kernel, rfl, by decide +kernel, by decide +kernel⟩
theorem k_describe (T : Tx K mg) : KnX P w K mg base "describe" 8 ["forest", "tree"] (spDesc K) := by
  have F := T.fn1 83 (x := "describe") (st := s_describe) rfl
  have sc := sc_describe
  let st : Stmt := s_describe
  let nn : List Str := ["forest", "tree", "nodes", "node"]
  refine ⟨F.okX sc (fun vs H Q E h => ?_) (fun cdv A outer s H vs Q E hr h => ?_), F.binds fun _ _ _ _ _ _ us hl => match us, hl with | [_, _], _ => rfl, F.kp, T.glo 70⟩

  · obtain ⟨f, i, s, rfl, _⟩ := h
    rfl
  obtain ⟨f, i, s', rfl, hf, k⟩ := h
  refine ⟨_, (pss_cons (ps_set (i := 2) sc.nd rfl (Or.inl rfl) (kc (k_subtree T) hr (pa_cons (kmtX (k_Forest_root T) (pv 0) hr (pa_cons (pv 1) pa_nil) (passes_call (takes_of rfl rfl rfl rfl) fun _ _ _ _ h => h)) pa_nil)))
      (pss_one (ps_ret (pe_op op_cat (pe_lst (pa_cons (pe_callB call_len_seq (by rfl) (T.free 91) PySem.boot_len (pa_cons (pv 2) pa_nil)) pa_nil)) (kc (k_all_from T) hr (pa_cons (pe_lc (own := [("node", 3)]) (g := gName 3) (tt := tYes) rfl sc.nd (pi_list (pv 2)) (blkOk_by (N := nn) (sc := defScope st) (by decide +kernel)) (fun _ _ _ _ _ => (pg_name (i := 3) sc.nd rfl (Or.inl rfl))) (fun _ _ _ _ _ => pts_nil) (fun _ _ _ _ _ => (kc (k_node_row T) hr (pa_cons (pv 3) pa_nil)))) pa_nil)))))), ?_⟩
  have hff := hf
  obtain ⟨dx, l, v1, v2, h1, _⟩ := hff
  refine ⟨_, rfl, f, dx, _, rfl, h1, foF_none (by decide +kernel), _, rfl, f, i, s', rfl, hf, fun hi v hv => ?_, fun hi => k.err (snd_if hi) (by decide) (Same.refl H)⟩
  obtain ⟨n, ht, hg⟩ := hv
  have hl := hg.low
  refine ⟨n, v, _, H, by omega, by omega, rfl, Same.refl H, ht, fun q1 ys H1 hq1 S1 hy1 hp1 => ?_⟩
  have hsm := sub_small hg.root.thin (by omega)
  have hyl := hp1.len
  refine ⟨_, rfl, q1, ys, rfl, .inl (.inl (.inl hy1)), by show 1 ≤ sizeLine; decide, fun o ho => ?_⟩
  have S2 := Same.upd (o := .lst [.int (ys.length : Nat)]) ho
  have ho1 := upd_same (H := H1) (a := o) (o := .lst [.int (ys.length : Nat)])
  generalize upd H1 o (.lst [.int (ys.length : Nat)]) = H2 at *
  refine ⟨_, rfl, q1, rfl, ⟨_, .inl (.inl (S2 _ _ hy1))⟩, ?_⟩
  refine lc_li (R0 := SubV K H) (BF.sub n (s'.tree i)) (fun _ => true) (fun H' u q => SeqI H' u (Kvg6.nodeValues (q.1 + 1, q.2))) hp1 ?_ ?_ ?_ ?_ ?_ ?_ ?_
  · exact fun H2 S3 => .inl (.inl (S3 _ _ (S2 _ _ hy1)))
  · exact Nat.lt_of_le_of_lt (show ys.length ≤ 4096 by omega) (by decide)
  · exact fun _ _ _ _ S h => S.seqI h
  · exact fun _ => rfl
  · exact fun x z H3 _ _ _ kf hk => hk _ (Same.refl _)
  · intro x z H3 D acc hx _ _ S3 S3' hD kf hk
    exact ⟨_, rfl, z.1, x, z.2, H, rfl, (S1.trans S2).trans S3, hx, fun u H4 hu S4 h4 => hk _ _ S4 ⟨u, rfl, .inl (off_at h4 fun z => by subst z; rw [hD] at hu; cases hu)⟩⟩
  · intro D H3 zs hD S3 hzs hpz
    rw [List.filter_eq_self.mpr fun _ _ => rfl] at hpz
    have hfl : (((BF.sub n (s'.tree i)).map fun q => Kvg6.nodeValues (q.1 + 1, q.2)).flatten).length ≤ (BF.sub n (s'.tree i)).length * 6 := flat_le fun q hq => row_le (sub_thin_all hp1 q hq) _
    refine ⟨D, zs, (BF.sub n (s'.tree i)).map fun q => Kvg6.nodeValues (q.1 + 1, q.2), rfl, hzs, Paired.mapR (Paired.impl (fun _ _ h => off_same.seqI h) hpz), Nat.le_trans hfl (by omega), fun q' H4 hq' S4 h4 => ?_⟩
    refine ⟨o, q', _, _, rfl, rfl, (S3.trans S4) _ _ ho1, h4, line_small (by rw [List.length_map]; show 1 + _ ≤ _; omega), fun r hr0 => ?_⟩
    have S14 := ((S1.trans S2).trans S3).trans S4
    refine k.new (snd_ifn (by omega)) (by omega) r _ (S14.free hr0) (S14.trans (Same.upd hr0)) ?_
    rw [upd_same, hyl, sub_count hg.root.bal (by omega), ← sub_lv hg, List.flatMap_map]
    rfl
end
end BFW
namespace BF
open Kvg6
theorem full_sub : ∀ (n : Nat) (t : Tree), Full n t → ∀ q ∈ sub n t, Full q.1 q.2 ∧ q.1 ≤ n
  | 0, .leaf items, h, q, hq => by
    rw [List.mem_singleton.mp (show q ∈ [(0, Tree.leaf items)] from hq)]
    exact ⟨h, Nat.le_refl _⟩
  | 0, .node _, h, _, _ => h.elim
  | n + 1, .leaf _, h, _, _ => h.elim
  | n + 1, .node ch, h, q, hq => by
    rw [sub_node] at hq
    rcases List.mem_cons.mp hq with rfl | hq
    · exact ⟨h, Nat.le_refl _⟩
    · obtain ⟨c, hc, hq⟩ := List.mem_flatMap.mp hq
      obtain ⟨h1, h2⟩ := full_sub n c (h.2 c hc) q hq
      exact ⟨h1, by omega⟩
theorem full_ne {n : Nat} {t : Tree} (h : Full n t) (hn : n ≤ 15) : (boxesOfNode t).isEmpty = false ∧ t.items.isEmpty = false := by
  have hp := h.pos
  constructor
  · cases n with
    | zero =>
      obtain ⟨items, rfl⟩ := h.bal.leaf
      have h2 : 2 ≤ items.length := h.1
      cases items with
      | nil => simp at h2
      | cons _ _ => rfl
    | succ n =>
      obtain ⟨ch, rfl, _⟩ := h.bal.node
      have h2 := h.1.1
      cases ch with
      | nil => simp at h2
      | cons _ _ => rfl
  · rw [items_of h.bal (by omega)]
    cases e : itemsOfTree n t with
    | nil => rw [e] at hp; simp at hp
    | cons _ _ => rfl
theorem sub_ne {n : Nat} {t : Tree} (g : GoodAt n t) : ∀ q ∈ sub n t, (boxesOfNode q.2).isEmpty = q.2.items.isEmpty ∧ q.1 ≤ n := by
  intro q hq
  have hl := g.low
  cases n with
  | zero =>
    obtain ⟨items, rfl⟩ := g.root.bal.leaf
    rw [List.mem_singleton.mp (show q ∈ [(0, Tree.leaf items)] from hq)]
    refine ⟨?_, Nat.le_refl _⟩
    rw [g.items]
    show (items.map Item.box).isEmpty = items.isEmpty
    cases items <;> rfl
  | succ n =>
    obtain ⟨ch, rfl, _⟩ := g.root.bal.node
    have hf : Full (n + 1) (.node ch) := g.root
    obtain ⟨h1, h2⟩ := full_sub _ _ hf q hq
    obtain ⟨e1, e2⟩ := full_ne h1 (by omega)
    exact ⟨by rw [e1, e2], h2⟩
end BF
namespace BFW
open PySem PySem.Spec PyProof.Rows L2 BFH
open Kvg6 (Box Item)
open BF (BoxOk ItOk)
section
variable {P : Program} {w : World} {K : PySem.W.Frag} {mg : Str → Option Value} {base : Heap}
/-- a node with the entries of a good tree: it has entries just if it has items -/
def SubG (K : PySem.W.Frag) (H : Hp) (v : V) (q : Nat × Kvg6.Tree) : Prop := TreeV K H q.1 v q.2 ∧ (Kvg6.boxesOfNode q.2).isEmpty = q.2.items.isEmpty ∧ q.1 ≤ 15
theorem paired_and {α β : Type} {R : α → β → Prop} {p : β → Prop} : ∀ {l : List α} {m : List β}, Paired R l m → (∀ y ∈ m, p y) → Paired (fun x y => R x y ∧ p y) l m
  | _, _, .nil, _ => .nil
  | _, _, .cons h t, hp => .cons ⟨h, hp _ List.mem_cons_self⟩ (paired_and t fun y hy => hp y (List.mem_cons_of_mem _ hy))
theorem sub_good {H : Hp} {n : Nat} {t : Kvg6.Tree} (g : BF.GoodAt n t) {xs : List V} (h : Paired (SubV K H) xs (BF.sub n t)) : Paired (SubG K H) xs (BF.sub n t) := by
  have hl := g.low
  refine Paired.impl (fun x q h => ⟨h.1, h.2.1, by have := h.2.2; omega⟩) (paired_and (p := fun q => (Kvg6.boxesOfNode q.2).isEmpty = q.2.items.isEmpty ∧ q.1 ≤ n) h (BF.sub_ne g))
theorem ents_isEmpty {H : Hp} {n : Nat} {t : Kvg6.Tree} {p dx e : Addr} {bv : V} {xs : List V} (ta : TreeAt K H n t p dx e bv xs) : xs.isEmpty = (Kvg6.boxesOfNode t).isEmpty := by
  have := ta.ents.len
  cases xs with
  | nil => cases h : Kvg6.boxesOfNode t with
    | nil => rfl
    | cons _ _ => rw [h] at this; simp at this
  | cons _ _ => cases h : Kvg6.boxesOfNode t with
    | nil => rw [h] at this; simp at this
    | cons _ _ => rfl
def spNBox (K : PySem.W.Frag) : Sp := fun vs H Q E => ∃ (f : Addr) (i lv : Nat) (s : Kvg6.Index), vs = [.ref f, .int i, .int lv] ∧ ForestAt K H f s ∧ QOut K H (s.run (.nodeBoxes i lv)).2 Q E
theorem sc_node_boxes : FnScope ["forest", "tree", "level", "nodes", "boxes", "node"] ["forest", "tree", "level"] (defScope s_node_boxes) := ⟨rfl, rfl, rfl, by decide +kernel, rfl, by decide +kernel, by decide +kernel⟩
theorem k_node_boxes (T : Tx K mg) : KnX P w K mg base "node_boxes" 8 ["forest", "tree", "level"] (spNBox K) := by
  have F := T.fn1 84 (x := "node_boxes") (st := s_node_boxes) rfl
  have sc := sc_node_boxes
  let st : Stmt := s_node_boxes
  let nn : List Str := ["forest", "tree", "level", "nodes", "boxes", "node"]
  refine ⟨F.okX sc (fun vs H Q E h => ?_) (fun cdv A outer s H vs Q E hr h => ?_), F.binds fun _ _ _ _ _ _ us hl => match us, hl with | [_, _, _], _ => rfl, F.kp, T.glo 71⟩

  · obtain ⟨f, i, lv, s, rfl, _⟩ := h
    rfl
  obtain ⟨f, i, lv, s', rfl, hf, k⟩ := h
  refine ⟨_, (pss_cons (ps_set (i := 3) sc.nd rfl (Or.inl rfl) (kc (k_subtree T) hr (pa_cons (kmtX (k_Forest_root T) (pv 0) hr (pa_cons (pv 1) pa_nil) (passes_call (takes_of rfl rfl rfl rfl) fun _ _ _ _ h => h)) pa_nil)))
      (pss_cons (ps_setLc (i := 4) (own := [("node", 5)]) (g := gName 5) rfl sc.nd rfl rfl (sw_true rfl rfl rfl (by decide +kernel)) (pi_list (pv 3)) (blkOk_by (N := nn) (sc := defScope st) (by decide +kernel)) (fun _ _ _ _ _ => (pg_name (i := 5) sc.nd rfl (Or.inl rfl))) (fun _ _ _ _ _ => (pts_one (PW.pt (pw_and (pt_cmpR op_eq (pe_fldK (K := K) rfl (pv 5) rfl) (pv 2) (nomark _)) (pw_and1 (pt_cmpR (op_neNilK (K := K) rfl hr.units0) (pe_fldK (K := K) rfl (pv 5) rfl) (pe_lst pa_nil) (nomark _))))))) (fun _ _ _ _ _ => (pe_fldK (K := K) rfl (pv 5) rfl)))
      (pss_one (ps_ret (pe_op op_cat (pe_lst (pa_cons (pe_callB call_len_seq (by rfl) (T.free 91) PySem.boot_len (pa_cons (pv 4) pa_nil)) pa_nil)) (kc (k_all_from T) hr (pa_cons (pv 4) pa_nil))))))), ?_⟩
  have hff := hf
  obtain ⟨dx, l, v1, v2, h1, _⟩ := hff
  refine ⟨_, rfl, f, dx, _, rfl, h1, foF_none (by decide +kernel), _, rfl, f, i, s', rfl, hf, fun hi v hv => ?_, fun hi => k.err (snd_if hi) (by decide) (Same.refl H)⟩
  obtain ⟨n, ht, hg⟩ := hv
  have hl := hg.low
  refine ⟨n, v, _, H, by omega, by omega, rfl, Same.refl H, ht, fun q1 ys H1 hq1 S1 hy1 hp1 => ?_⟩
  have hsm := sub_small hg.root.thin (by omega)
  have hyl := hp1.len
  have hp2 := sub_good hg hp1
  refine ⟨_, rfl, q1, rfl, ⟨_, .inl (.inl hy1)⟩, ?_⟩
  refine lc_li (R0 := SubG K H) (BF.sub n (s'.tree i)) (fun q => (q.1 + 1 == lv) && !q.2.items.isEmpty) (fun H' u q => SeqI H' u (Kvg6.boxValues q.2.box)) hp2 ?_ ?_ ?_ ?_ ?_ ?_ ?_
  · exact fun H2 S3 => .inl (.inl (S3 _ _ hy1))
  · exact Nat.lt_of_le_of_lt (show ys.length ≤ 4096 by omega) (by decide)
  · exact fun _ _ _ _ S h => S.seqI h
  · exact fun _ => rfl
  · intro x z H3 hx _ S3 kf hk
    obtain ⟨hx1, hx2, hx3⟩ := hx
    obtain ⟨p, dx2, e, bv, xs, rfl, ta⟩ := TreeV.at_ hx1
    have S13 := S1.trans S3
    refine tAndS_of (b1 := (z.1 + 1 == lv)) (b2 := !z.2.items.isEmpty) ?_ ?_ hk
    · intro kk hkk
      refine ⟨_, rfl, _, _, _, _, _, rfl, S13 _ _ ta.node, (kcl_Node T).cl, no_Node_level T, ndF_level, _, rfl, rfl, _, rfl, ?_⟩
      rw [show decide (V.int ((z.1 : Int) + 1) = V.int (lv : Int)) = (z.1 + 1 == lv) by
        rw [Bool.eq_iff_iff, decide_eq_true_eq, beq_iff_eq]
        constructor
        · intro c
          injection c with c
          omega
        · intro c
          rw [← c]
          congr 1]
      exact hkk
    · intro kk hkk
      refine ⟨_, rfl, _, _, _, _, _, rfl, S13 _ _ ta.node, (kcl_Node T).cl, no_Node_entries T, ndF_entries, Nat.zero_le _, fun l2 hl2 => ⟨e, l2, xs, rfl, rfl, .inl (.inl (Same.upd hl2 _ _ (S13 _ _ ta.list))), upd_same, _, rfl, ?_⟩⟩
      rw [ents_isEmpty ta, hx2]
      exact hkk _ (Same.upd hl2)
  · intro x z H3 D acc hx _ hpz S3 S3' hD kf hk
    obtain ⟨hx1, hx2, hx3⟩ := hx
    obtain ⟨p, dx2, e, bv, xs, rfl, ta⟩ := TreeV.at_ hx1
    rw [Bool.and_eq_true] at hpz
    have hne : xs ≠ [] := fun c => by
      have := ents_isEmpty ta
      rw [c, hx2] at this
      rw [← this] at hpz
      exact absurd hpz.2 (by decide)
    have hen := ta.ent (by omega) hne
    obtain ⟨a1, C1, d1, f1, q2, ea1, g1, c1, n1, l1, b1⟩ := ent_fld T ((S1.trans S3').ent hen)
    obtain rfl : p = a1 := by injection ea1
    have g1' : H3 p = some (.ins C1 d1 f1) := by
      have := g1
      unfold off at this
      by_cases h : p = D
      · rw [if_pos h] at this
        cases this
      · rw [if_neg h] at this
        exact this
    have b1' : H3 q2 = some (.tup (bxV z.2.box)) := by
      have := b1.1
      unfold off at this
      by_cases h : q2 = D
      · rw [if_pos h] at this
        cases this
      · rw [if_neg h] at this
        exact this
    exact ⟨_, rfl, _, _, _, _, _, rfl, g1', c1, n1, l1, hk _ _ (Same.refl _) ⟨q2, rfl, .inr b1.1⟩⟩
  · intro D H3 zs hD S3 hzs hpz
    have hpq : Paired (fun u (q : Nat × Kvg6.Tree) => SeqI H3 u (Kvg6.boxValues q.2.box)) zs ((BF.sub n (s'.tree i)).filter fun q => (q.1 + 1 == lv) && !q.2.items.isEmpty) := Paired.impl (fun _ _ h => off_same.seqI h) hpz
    have hzl : zs.length ≤ 4096 := by
      rw [hpq.len]
      exact Nat.le_trans (List.length_filter_le _ _) hsm
    refine ⟨_, rfl, D, zs, rfl, .inl (.inl (.inl hzs)), by show 1 ≤ sizeLine; decide, fun o ho => ?_⟩
    have S4 := Same.upd (o := .lst [.int (zs.length : Nat)]) ho
    have ho1 := upd_same (H := H3) (a := o) (o := .lst [.int (zs.length : Nat)])
    generalize upd H3 o (.lst [.int (zs.length : Nat)]) = H4 at *
    have hfl := pairs_len (f := fun q : Nat × Kvg6.Tree => Kvg6.boxValues q.2.box) (n := 4) (fun _ => rfl) ((BF.sub n (s'.tree i)).filter fun q => (q.1 + 1 == lv) && !q.2.items.isEmpty)
    have hql := hpq.len
    refine ⟨_, rfl, D, zs, ((BF.sub n (s'.tree i)).filter fun q => (q.1 + 1 == lv) && !q.2.items.isEmpty).map fun q => Kvg6.boxValues q.2.box, rfl, S4 _ _ hzs, Paired.mapR (Paired.impl (fun _ _ h => S4.seqI h) hpq), Nat.le_trans (Nat.le_of_eq hfl) (by omega), fun q' H5 hq' S5 h5 => ?_⟩
    refine ⟨o, q', _, _, rfl, rfl, S5 _ _ ho1, h5, line_small (by rw [List.length_map, hfl]; show 1 + _ ≤ _; omega), fun r hr0 => ?_⟩
    have S15 := ((S1.trans S3).trans S4).trans S5
    have hrun : (s'.run (.nodeBoxes i lv)).2 = ⟨((((BF.sub n (s'.tree i)).filter fun q => (q.1 + 1 == lv) && !q.2.items.isEmpty).length : Nat) : Int), ((BF.sub n (s'.tree i)).filter fun q => (q.1 + 1 == lv) && !q.2.items.isEmpty).flatMap fun q => Kvg6.boxValues q.2.box⟩ := by
      refine (snd_ifn (by omega)).trans ?_
      rw [← sub_lv hg, BF.map_filter_comm]
      dsimp only
      rw [List.length_map, List.flatMap_map]
    refine k.new hrun (by omega) r _ (S15.free hr0) (S15.trans (Same.upd hr0)) ?_
    rw [upd_same, hql]
    rfl
end
end BFW
namespace BFW
open PySem PySem.Spec PyProof.Rows L2 BFH
open Kvg6 (Box Item)
open BF (BoxOk ItOk)
section
variable {P : Program} {w : World} {K : PySem.W.Frag} {mg : Str → Option Value} {base : Heap}
theorem sumOf_eq (l : List Int) : Kvg6.sumOf l = l.sum := by
  have : ∀ (l : List Int) (a : Int), l.foldl (· + ·) a = a + l.sum := by
    intro l
    induction l with
    | nil => intro a; simp
    | cons x l ih => intro a; rw [List.foldl_cons, ih, List.sum_cons]; omega
  unfold Kvg6.sumOf
  rw [this]
  omega
theorem ovl_eq {a b : Box} (ha : BoxOk a) (hb : BoxOk b) : ovl a b = Kvg6.overlap a b := by
  obtain ⟨⟨a1, a2, a3⟩, a4, a5, a6⟩ := ha
  obtain ⟨⟨b1, b2, b3⟩, b4, b5, b6⟩ := hb
  unfold ovl Kvg6.overlap Kvg6.intersects
  have z : ∀ x y : Int, x ≤ 0 ∨ y ≤ 0 → max 0 x * max 0 y = 0 := fun x y h => by
    rcases h with h | h
    · rw [show max 0 x = 0 by omega, Int.zero_mul]
    · rw [show max 0 y = 0 by omega, Int.mul_zero]
  by_cases c : (decide (a.x0 ≤ b.x1) && decide (b.x0 ≤ a.x1) && decide (a.y0 ≤ b.y1) && decide (b.y0 ≤ a.y1)) = true
  · rw [if_pos c]
    simp only [Bool.and_eq_true, decide_eq_true_eq] at c
    rw [show max 0 (min a.x1 b.x1 - max a.x0 b.x0) = min a.x1 b.x1 - max a.x0 b.x0 by omega, show max 0 (min a.y1 b.y1 - max a.y0 b.y0) = min a.y1 b.y1 - max a.y0 b.y0 by omega]
  · rw [if_neg c]
    simp only [Bool.and_eq_true, decide_eq_true_eq] at c
    exact z _ _ (by omega)
def ovTo (bs : List Box) (i : Nat) : Int := ((bs.zipIdx.take i).flatMap fun p => (bs.drop (p.2 + 1)).map (ovl p.1)).sum
def spOvs (K : PySem.W.Frag) : Sp := fun vs H Q _ => ∃ (e : Addr) (xs : List V) (bs : List Box), vs = [.ref e] ∧ H e = some (.lst xs) ∧ Paired (Ent K H) xs bs ∧ xs.length ≤ 4 ∧ ∀ H', Same H H' → Q (.int (Kvg6.overlaps bs)) H'
theorem sc_overlaps : FnScope ["entries", "found", "k", "other"] ["entries"] (defScope s_overlaps) := ⟨rfl, rfl, rfl, by decide +kernel, rfl, by decide +kernel, by decide +kernel⟩
theorem k_overlaps (T : Tx K mg) : Kn P w K mg base "overlaps" 2 ["entries"] (spOvs K) := by
  have F := T.fn1 85 (x := "overlaps") (st := s_overlaps) rfl
  have sc := sc_overlaps
  let st : Stmt := s_overlaps
  let nn : List Str := ["entries", "found", "k", "other"]
  refine ⟨F.ok sc (fun vs H Q E h => ?_) (fun cdv A outer s H vs Q E hr h => ?_), F.binds fun _ _ _ _ _ _ us hl => match us, hl with | [_], _ => rfl, F.kp, T.glo 72⟩

  · obtain ⟨e, xs, bs, rfl, _⟩ := h
    rfl
  obtain ⟨e, xs, bs, rfl, he, hp, h4, k⟩ := h
  refine ⟨_, (pss_cons (ps_set (i := 1) sc.nd rfl (Or.inl rfl) pe_int)
      (pss_cons (ps_for PassesOwn.never rfl (pi_range1 rfl (T.free 95) (pa_cons (pe_callB call_len_seq (by rfl) (T.free 91) PySem.boot_len (pa_cons (pv 0) pa_nil)) pa_nil)) (pg_name (i := 2) sc.nd rfl (Or.inr rfl)) (pss_one (ps_set (i := 1) sc.nd rfl (Or.inl rfl) (pe_op op_add (pv 1) (pe_callB (cr_sum rfl) (by rfl) (T.free 101) boot_sum (pa_cons (pe_lc (own := [("other", 3)]) (g := gName 3) (tt := tYes) rfl sc.nd (pi_list (pe_slice sl_list (pv 0) (po_some (pe_op op_add (pv 2) pe_int)) po_none)) (blkOk_by (N := nn) (sc := defScope st) (by decide +kernel)) (fun _ _ _ _ _ => (pg_name (i := 3) sc.nd rfl (Or.inl rfl))) (fun _ _ _ _ _ => pts_nil) (fun _ _ _ _ _ => (kc (k_overlap T) hr (pa_cons (pe_fldK (K := K) rfl (pe_ix (ix_listK (K := K) rfl) (pv 0) (pv 2) (fun _ _ => rfl)) rfl) (pa_cons (pe_fldK (K := K) rfl (pv 3) rfl) pa_nil))))) pa_nil))))))
      (pss_one (ps_ret (pv 1))))), ?_⟩
  refine ⟨_, rfl, e, xs, rfl, .inl (.inl (.inl he)), ?_⟩
  refine ⟨xs.length, rfl, by omega, by omega, ?_⟩
  have hl := hp.len
  refine for_range (fun i σ H1 => ∃ o2, σ = [some (.ref e), some (.int (ovTo bs i)), o2, none] ∧ Same H H1) ?_ ?_ ?_
  · exact ⟨_, rfl, Same.refl H⟩
  · rintro i σ H1 hi ⟨o2, rfl, S⟩
    obtain ⟨v1, e1, w1⟩ := ent_at hp (i := i) (by omega)
    refine ⟨_, rfl, _, rfl, _, rfl, _, _, rfl, rfl, _, rfl, ?_⟩
    refine ⟨e, xs, rfl, .inl (.inl (S _ _ he)), fun p hp0 => ?_⟩
    rw [cut_hi (j := i + 1) (by omega) (by omega)]
    have S2 := S.trans (Same.upd (o := .lst (xs.drop (i + 1))) hp0)
    have hp1 := upd_same (H := H1) (a := p) (o := .lst (xs.drop (i + 1)))
    generalize upd H1 p (.lst (xs.drop (i + 1))) = H2 at *
    refine ⟨p, rfl, ⟨_, .inl (.inl hp1)⟩, ?_⟩
    refine lc_li (R0 := Ent K H) (bs.drop (i + 1)) (fun _ => true) (fun H' u b => u = .int (ovl (BF.bx bs i) b)) (hp.dropP (i + 1)) ?_ ?_ ?_ ?_ ?_ ?_ ?_
    · exact fun H3 S3 => .inl (.inl (S3 _ _ hp1))
    · exact Nat.lt_of_le_of_lt (show (xs.drop (i + 1)).length ≤ 4 by rw [List.length_drop]; omega) (by decide)
    · exact fun _ _ _ _ _ h => h
    · exact fun _ => rfl
    · exact fun x z H3 _ _ _ kf hk => hk _ (Same.refl _)
    · intro x z H3 D acc hx _ _ S3 S3' hD kf hk
      have S23 := S2.trans S3
      obtain ⟨a1, C1, d1, f1, q1, rfl, g1, c1, n1, l1, b1⟩ := ent_fld T (S23.ent w1)
      obtain ⟨a2, C2, d2, f2, q2, rfl, g2, c2, n2, l2, b2⟩ := ent_fld T (S23.ent hx)
      exact ⟨_, rfl, _, rfl, e, xs, _, _, rfl, rfl, .inl (.inl (S23 _ _ he)), at_of (by omega) e1, _, _, _, _, _, rfl, g1, c1, n1, l1, _, rfl, _, _, _, _, _, rfl, g2, c2, n2, l2, q1, q2, _, z, rfl, b1, b2, hk _ _ (Same.refl _) rfl⟩
    · intro D H3 ys hD S3 hys hpy
      rw [List.filter_eq_self.mpr fun _ _ => rfl] at hpy
      have ey := paired_eq hpy
      refine ⟨D, (bs.drop (i + 1)).map (ovl (BF.bx bs i)), rfl, .inl (.inl (by rw [List.map_map]; rw [ey] at hys; exact hys)), _, _, rfl, rfl, ?_⟩
      refine ⟨some (.int (i : Nat)), ?_, S2.trans S3⟩
      have hz : bs.zipIdx.take (i + 1) = bs.zipIdx.take i ++ [(BF.bx bs i, i)] := by
        rw [List.take_add_one, BF.getElem?_zipIdx', bx_at (by omega)]
        rfl
      have ev : ovTo bs (i + 1) = ovTo bs i + ((bs.drop (i + 1)).map (ovl (BF.bx bs i))).sum := by
        unfold ovTo
        rw [hz, List.flatMap_append, List.sum_append, List.flatMap_cons, List.flatMap_nil, List.append_nil]
      rw [ev, show ((0 : Int) + (i : Int)) = ((i : Nat) : Int) by omega]
      rfl
  · rintro σ H1 ⟨o2, rfl, S⟩
    have ok : ∀ b ∈ bs, BoxOk b := fun b hb => by
      obtain ⟨j, hj⟩ := List.getElem?_of_mem hb
      obtain ⟨x, _, r⟩ := hp.get2 hj
      obtain ⟨a1, C1, d1, f1, q1, rfl, g1, c1, n1, l1, b1⟩ := ent_fld T r
      exact b1.2
    have ev : ovTo bs xs.length = Kvg6.overlaps bs := by
      unfold ovTo Kvg6.overlaps
      rw [sumOf_eq, hl, show bs.length = bs.zipIdx.length by rw [List.length_zipIdx], List.take_length]
      congr 1
      show (List.map _ _).flatten = (List.map _ _).flatten
      congr 1
      refine List.map_congr_left fun p hp => ?_
      have hm : p.1 ∈ bs := by
        obtain ⟨j, hj⟩ := List.getElem?_of_mem hp
        rw [BF.getElem?_zipIdx'] at hj
        obtain ⟨y, h1, rfl⟩ := Option.map_eq_some_iff.mp hj
        exact List.mem_of_getElem? h1
      refine List.map_congr_left fun b hb => ovl_eq (ok _ hm) (ok b (List.mem_of_mem_drop hb))
    rw [Int.toNat_natCast, ev]
    exact ⟨_, rfl, k H1 S⟩
end
end BFW
namespace BFW
open PySem PySem.Spec PyProof.Rows L2 BFH
open Kvg6 (Box Item)
open BF (BoxOk ItOk)
section
variable {P : Program} {w : World} {K : PySem.W.Frag} {mg : Str → Option Value} {base : Heap}
theorem sum_skip {α : Type} (f : α → Int) (p : α → Bool) : ∀ l : List α, (∀ x ∈ l, p x = false → f x = 0) → (l.map f).sum = ((l.filter p).map f).sum
  | [], _ => rfl
  | a :: l, h => by
    have ih := sum_skip f p l fun x hx => h x (List.mem_cons_of_mem _ hx)
    rw [List.map_cons, List.sum_cons, List.filter_cons, ih]
    cases c : p a with
    | true => rw [if_pos rfl, List.map_cons, List.sum_cons]
    | false => rw [if_neg (by decide), h a List.mem_cons_self c]; omega
theorem sub_list {n : Nat} {t : Kvg6.Tree} (g : BF.GoodAt n t) : (BF.sub n t).map Prod.snd = t.nodes := by
  rw [BF.sub_nodes n t g.root.bal]
  exact BF.nodes_fuel n t g.root.bal n Kvg6.fuel (Nat.le_refl n) (by have := g.low; show n ≤ 16; omega)
def spQual (K : PySem.W.Frag) : Sp := fun vs H Q E => ∃ (f : Addr) (i : Nat) (s : Kvg6.Index), vs = [.ref f, .int i] ∧ ForestAt K H f s ∧ QOut K H (s.run (.quality i)).2 Q E
theorem sc_quality : FnScope ["forest", "tree", "nodes", "node"] ["forest", "tree"] (defScope s_quality) := ⟨rfl, rfl, rfl, by decide +kernel, rfl, by decide +kernel, by decide +kernel⟩
theorem k_quality (T : Tx K mg) : KnX P w K mg base "quality" 8 ["forest", "tree"] (spQual K) := by
  have F := T.fn1 86 (x := "quality") (st := s_quality) rfl
  have sc := sc_quality
  let st : Stmt := s_quality
  let nn : List Str := ["forest", "tree", "nodes", "node"]
  refine ⟨F.okX sc (fun vs H Q E h => ?_) (fun cdv A outer s H vs Q E hr h => ?_), F.binds fun _ _ _ _ _ _ us hl => match us, hl with | [_, _], _ => rfl, F.kp, T.glo 73⟩

  · obtain ⟨f, i, s, rfl, _⟩ := h
    rfl
  obtain ⟨f, i, s', rfl, hf, k⟩ := h
  refine ⟨_, (pss_cons (ps_setLc (i := 2) (own := [("node", 3)]) (g := gName 3) rfl sc.nd rfl rfl (sw_true rfl rfl rfl (by decide +kernel)) (pi_list (kc (k_subtree T) hr (pa_cons (kmtX (k_Forest_root T) (pv 0) hr (pa_cons (pv 1) pa_nil) (passes_call (takes_of rfl rfl rfl rfl) fun _ _ _ _ h => h)) pa_nil))) (blkOk_by (N := nn) (sc := defScope st) (by decide +kernel)) (fun _ _ _ _ _ => (pg_name (i := 3) sc.nd rfl (Or.inl rfl))) (fun _ _ _ _ _ => (pts_one (pt_cmpR (op_neNilK (K := K) rfl hr.units0) (pe_fldK (K := K) rfl (pv 3) rfl) (pe_lst pa_nil) (nomark _)))) (fun _ _ _ _ _ => (pv 3)))
      (pss_one (ps_ret (pe_lst (pa_cons pe_int (pa_cons (pe_callB (cr_sum rfl) (by rfl) (T.free 101) boot_sum (pa_cons (pe_lc (own := [("node", 3)]) (g := gName 3) (tt := tYes) rfl sc.nd (pi_list (pv 2)) (blkOk_by (N := nn) (sc := defScope st) (by decide +kernel)) (fun _ _ _ _ _ => (pg_name (i := 3) sc.nd rfl (Or.inl rfl))) (fun _ _ _ _ _ => pts_nil) (fun _ _ _ _ _ => (kc (k_area T) hr (pa_cons (pe_fldK (K := K) rfl (pv 3) rfl) pa_nil)))) pa_nil)) (pa_cons (pe_callB (cr_sum rfl) (by rfl) (T.free 101) boot_sum (pa_cons (pe_lc (own := [("node", 3)]) (g := gName 3) (tt := tYes) rfl sc.nd (pi_list (pv 2)) (blkOk_by (N := nn) (sc := defScope st) (by decide +kernel)) (fun _ _ _ _ _ => (pg_name (i := 3) sc.nd rfl (Or.inl rfl))) (fun _ _ _ _ _ => pts_nil) (fun _ _ _ _ _ => (kc (k_overlaps T) hr (pa_cons (pe_fldK (K := K) rfl (pv 3) rfl) pa_nil)))) pa_nil)) pa_nil))))))), ?_⟩
  have hff := hf
  obtain ⟨dx, l, v1, v2, h1, _⟩ := hff
  refine ⟨_, rfl, f, dx, _, rfl, h1, foF_none (by decide +kernel), _, rfl, f, i, s', rfl, hf, fun hi v hv => ?_, fun hi => k.err (snd_if hi) (by decide) (Same.refl H)⟩
  obtain ⟨n, ht, hg⟩ := hv
  have hl := hg.low
  refine ⟨n, v, _, H, by omega, by omega, rfl, Same.refl H, ht, fun q1 ys H1 hq1 S1 hy1 hp1 => ?_⟩
  have hsm := sub_small hg.root.thin (by omega)
  have hyl := hp1.len
  have hp2 := sub_good hg hp1
  refine ⟨q1, rfl, ⟨_, .inl (.inl hy1)⟩, ?_⟩
  refine lc_li (R0 := SubG K H) (BF.sub n (s'.tree i)) (fun q => !q.2.items.isEmpty) (fun H' u q => SubG K H u q) hp2 ?_ ?_ ?_ ?_ ?_ ?_ ?_
  · exact fun H2 S3 => .inl (.inl (S3 _ _ hy1))
  · exact Nat.lt_of_le_of_lt (show ys.length ≤ 4096 by omega) (by decide)
  · exact fun _ _ _ _ _ h => h
  · exact fun _ => rfl
  · intro x z H3 hx _ S3 kf hk
    obtain ⟨hx1, hx2, hx3⟩ := hx
    obtain ⟨p, dx2, e, bv, xs, rfl, ta⟩ := TreeV.at_ hx1
    have S13 := S1.trans S3
    refine ⟨_, rfl, _, _, _, _, _, rfl, S13 _ _ ta.node, (kcl_Node T).cl, no_Node_entries T, ndF_entries, Nat.zero_le _, fun l2 hl2 => ⟨e, l2, xs, rfl, rfl, .inl (.inl (Same.upd hl2 _ _ (S13 _ _ ta.list))), upd_same, _, rfl, ?_⟩⟩
    rw [ents_isEmpty ta, hx2]
    exact hk _ (Same.upd hl2)
  · exact fun x z H3 D acc hx _ _ S3 S3' hD kf hk => ⟨_, rfl, hk _ _ (Same.refl _) hx⟩
  · intro D H3 zs hD S3 hzs hpz
    have hne : ∀ q ∈ BF.sub n (s'.tree i), (Kvg6.boxesOfNode q.2).isEmpty = q.2.items.isEmpty := fun q hq => (BF.sub_ne hg q hq).1
    have hrun : (s'.run (.quality i)).2 = ⟨0, [(((BF.sub n (s'.tree i)).filter fun q => !q.2.items.isEmpty).map fun q => q.2.box.area).sum, (((BF.sub n (s'.tree i)).filter fun q => !q.2.items.isEmpty).map fun q => Kvg6.overlaps (Kvg6.boxesOfNode q.2)).sum]⟩ := by
      refine (snd_ifn (by omega)).trans ?_
      dsimp only
      rw [sumOf_eq, sumOf_eq, ← sub_list hg, BF.map_filter_comm, List.map_map, List.map_map, ← sum_skip (fun q : Nat × Kvg6.Tree => Kvg6.overlaps (Kvg6.boxesOfNode q.2)) (fun q => !q.2.items.isEmpty) (BF.sub n (s'.tree i)) fun q hq c => ?_]
      · rfl
      · have e1 := hne q hq
        have : q.2.items.isEmpty = true := by simpa using c
        rw [this] at e1
        rw [List.isEmpty_iff.mp e1]
        rfl
    have hpos : ∀ q ∈ (BF.sub n (s'.tree i)).filter (fun q => !q.2.items.isEmpty), q.2.items.isEmpty = false := fun q hq => by
      have := (List.mem_filter.mp hq).2
      simpa using this
    have hzl : zs.length ≤ 4096 := by
      rw [hpz.len]
      exact Nat.le_trans (List.length_filter_le _ _) hsm
    generalize (BF.sub n (s'.tree i)).filter (fun q => !q.2.items.isEmpty) = nds at *
    refine ⟨_, rfl, D, rfl, ⟨_, .inl (.inl hzs)⟩, ?_⟩
    have S13 := S1.trans S3
    refine lc_li (R0 := SubG K H) nds (fun _ => true) (fun H' u q => u = .int q.2.box.area) hpz ?_ ?_ ?_ ?_ ?_ ?_ ?_
    · exact fun H2 S4 => .inl (.inl (S4 _ _ hzs))
    · exact Nat.lt_of_le_of_lt hzl (by decide)
    · exact fun _ _ _ _ _ h => h
    · exact fun _ => rfl
    · exact fun x z H3 _ _ _ kf hk => hk _ (Same.refl _)
    · intro x z H4 D2 acc hx hm _ S4 S4' hD kf hk
      obtain ⟨hx1, hx2, hx3⟩ := hx
      obtain ⟨p, dx2, e, bv, xs, rfl, ta⟩ := TreeV.at_ hx1
      have hen := ta.ent (by omega) (fun c => by
        have h1 := ents_isEmpty ta
        rw [c, hx2, hpos z hm] at h1
        cases h1)
      obtain ⟨a1, C1, d1, f1, q2, ea1, g1, c1, n1, l1, b1⟩ := ent_fld T ((S13.trans S4).ent hen)
      obtain rfl : p = a1 := by injection ea1
      exact ⟨_, rfl, _, _, _, _, _, rfl, g1, c1, n1, l1, q2, z.2.box, rfl, b1, hk _ _ (Same.refl _) rfl⟩
    · intro D2 H4 us hD2 S4 hus hpu
      rw [List.filter_eq_self.mpr fun _ _ => rfl] at hpu
      have eu := paired_eq hpu
      refine ⟨D2, nds.map fun q => q.2.box.area, rfl, .inl (.inl (by rw [List.map_map]; rw [eu] at hus; exact hus)), ?_⟩
      have S14 := S13.trans S4
      refine ⟨_, rfl, D, rfl, ⟨_, .inl (.inl (S4 _ _ hzs))⟩, ?_⟩
      refine lc_li (R0 := SubG K H) nds (fun _ => true) (fun H' u q => u = .int (Kvg6.overlaps (Kvg6.boxesOfNode q.2))) hpz ?_ ?_ ?_ ?_ ?_ ?_ ?_
      · exact fun H2 S5 => .inl (.inl (S5 _ _ (S4 _ _ hzs)))
      · exact Nat.lt_of_le_of_lt hzl (by decide)
      · exact fun _ _ _ _ _ h => h
      · exact fun _ => rfl
      · exact fun x z H3 _ _ _ kf hk => hk _ (Same.refl _)
      · intro x z H5 D3 acc hx hm _ S5 S5' hD kf hk
        obtain ⟨hx1, hx2, hx3⟩ := hx
        obtain ⟨p, dx2, e, bv, xs, rfl, ta⟩ := TreeV.at_ hx1
        have S15 := S14.trans S5
        exact ⟨_, rfl, _, _, _, _, _, rfl, S15 _ _ ta.node, (kcl_Node T).cl, no_Node_entries T, ndF_entries, e, xs, _, rfl, S15 _ _ ta.list, Paired.impl (fun _ _ h => S15.ent h) ta.ents, ta.four, fun H6 S6 => hk _ _ S6 rfl⟩
      · intro D3 H5 ws hD3 S5 hws hpw
        rw [List.filter_eq_self.mpr fun _ _ => rfl] at hpw
        have ew := paired_eq hpw
        refine ⟨D3, nds.map fun q => Kvg6.overlaps (Kvg6.boxesOfNode q.2), rfl, .inl (.inl (by rw [List.map_map]; rw [ew] at hws; exact hws)), by show 3 ≤ sizeLine; decide, fun r hr0 => ?_⟩
        have S15 := S14.trans S5
        exact k.new hrun (by decide) r _ (S15.free hr0) (S15.trans (Same.upd hr0)) upd_same
end
end BFW
namespace BFW
open PySem PySem.Spec PyProof.Rows L2 BFH
open Kvg6 (Box Item)
open BF (BoxOk ItOk)
section
variable {P : Program} {w : World} {K : PySem.W.Frag} {mg : Str → Option Value} {base : Heap}
def spJN (K : PySem.W.Frag) : Sp := fun vs H Q E => ∃ (f : Addr) (s : Kvg6.Index), vs = [.ref f] ∧ ForestAt K H f s ∧ QOut K H (s.run .joinNearest).2 Q E
theorem sc_join_nearest : FnScope ["forest", "rows", "item", "visited", "found"] ["forest"] (defScope s_join_nearest) := ⟨rfl, rfl, rfl, by decide +kernel, rfl, by decide +kernel, by decide +kernel⟩
theorem k_join_nearest (T : Tx K mg) : KnX P w K mg base "join_nearest" 9 ["forest"] (spJN K) := by
  have F := T.fn1 80 (x := "join_nearest") (st := s_join_nearest) rfl
  have sc := sc_join_nearest
  obtain ⟨tNOT_THERE, gNOT_THERE⟩ := T.int 109 (x := "NOT_THERE") rfl
  let st : Stmt := s_join_nearest
  let nn : List Str := ["forest", "rows", "item", "visited", "found"]
  refine ⟨F.okX sc (fun vs H Q E h => ?_) (fun cdv A outer s H vs Q E hr h => ?_), F.binds fun _ _ _ _ _ _ us hl => match us, hl with | [_], _ => rfl, F.kp, T.glo 67⟩

  · obtain ⟨f, s, rfl, _⟩ := h
    rfl
  obtain ⟨f, s', rfl, hf, k⟩ := h
  refine ⟨_, (pss_cons (ps_expr (kcX (k_need T) hr (pa_cons (pe_cmpR (op_neNil hr.units0) (pe_fld (pe_ix ix_list (pe_fld (pv 0) rfl) pe_int (fun _ _ => rfl)) rfl) (pe_lst pa_nil) (nomark _)) (pa_cons (pe_glob (v := .int (-33)) rfl gNOT_THERE ⟨_, rfl⟩) pa_nil)) (passes_call (takes_of rfl rfl rfl rfl) fun _ _ _ _ h => h)))
      (pss_cons (ps_set (i := 1) sc.nd rfl (Or.inl rfl) (pe_lst pa_nil))
      (pss_cons (ps_for (passes_of rfl) rfl (pi_list (pe_callBK (cr_sortK (k_number_of T) hr) (by rfl) (T.free 96) boot_sorted (pa_cons (kc (k_items_below T) hr (pa_cons (pe_ix ix_list (pe_fld (pv 0) rfl) pe_int (fun _ _ => rfl)) pa_nil)) pa_nil) (pk_cons (pe_glob (v := .ref (He.ga K "number_of")) rfl (T.glo 15) rfl) pk_nil))) (pg_name (i := 2) sc.nd rfl (Or.inl rfl)) (pss_cons (ps_asg (kc (k_nearest_search T) hr (pa_cons (pe_ix ix_list (pe_fld (pv 0) rfl) pe_int (fun _ _ => rfl)) (pa_cons (pe_fld (pv 2) rfl) (pa_cons pe_int pa_nil)))) (pg_tup rfl (pgs_cons (pg_name (i := 3) sc.nd rfl (Or.inl rfl)) (pgs_cons (pg_name (i := 4) sc.nd rfl (Or.inl rfl)) pgs_nil))))
      (pss_one (ps_expr (pe_bm PySem.F.plainAttrs_list PySem.F.slot_list_append PySem.F.type_list_append mt_append (pv 1) (pa_cons (pe_tup (pa_cons (pe_fld (pv 2) rfl) (pa_cons (pe_ix ix_tup (pe_ix ix_list (pv 4) pe_int (fun _ _ => rfl)) pe_int (fun _ _ => rfl)) (pa_cons (pe_ix ix_tup (pe_ix ix_list (pv 4) pe_int (fun _ _ => rfl)) pe_int (fun _ _ => rfl)) pa_nil)))) pa_nil))))))
      (pss_one (ps_ret (pe_op op_cat (pe_lst (pa_cons (pe_callB call_len_seq (by rfl) (T.free 91) PySem.boot_len (pa_cons (pv 1) pa_nil)) pa_nil)) (kc (k_all_from T) hr (pa_cons (pv 1) pa_nil)))))))), ?_⟩
  obtain ⟨dx, l, v1, v2, h1, h2, ⟨n, hv1, g1⟩, m, hv2, g2⟩ := hf
  obtain ⟨p, dx2, e, bv, xs, rfl, ta⟩ := hv2.at_
  have e1 := ents_empty ta g2
  refine ⟨_, rfl, _, _, _, _, _, rfl, h1, (kcl_Forest T).cl, no_Forest_roots T, foF_roots, l, _, _, _, rfl, rfl, .inl (.inl h2), rfl, _, _, _, _, _, rfl, ta.node, (kcl_Node T).cl, no_Node_entries T, ndF_entries, Nat.zero_le _, fun lz hlz => ⟨e, lz, xs, rfl, rfl, .inl (.inl (Same.upd hlz _ _ ta.list)), upd_same, _, _, rfl, fun c => ?_, fun c => ?_⟩⟩
  · have c1 : s'.second.items.isEmpty = false := by rw [← e1]; simpa using c
    have S1 := Same.upd (o := .lst []) hlz
    generalize upd H lz (.lst []) = H1 at *
    refine ⟨Nat.zero_le _, fun fd hfd => ?_⟩
    have S2 := S1.trans (Same.upd (o := .lst []) hfd)
    have f2 := upd_same (H := H1) (a := fd) (o := .lst [])
    have hfd0 : H fd = none := S1.free hfd
    generalize upd H1 fd (.lst []) = H2 at *
    have hl1 := g1.low
    refine ⟨_, rfl, _, _, _, _, _, rfl, S2 _ _ h1, (kcl_Forest T).cl, no_Forest_roots T, foF_roots, l, _, _, _, rfl, rfl, .inl (.inl (S2 _ _ h2)), rfl, n, v1, _, H, by omega, rfl, S2, hv1, fun q1 ys H3 hq1 S3 hy1 hp1 => ?_⟩
    have S03 := S2.trans S3
    have hnd : ((Kvg6.itemsOfTree n s'.first).map Item.id).Nodup := g1.nodup
    refine ⟨Item, ItemAt K H, fun it => PyData.int it.id, q1, ys, Kvg6.itemsOfTree n s'.first, rfl, rfl, .inl (.inl hy1), hp1, PySem.W.AllAlike.of (fun _ _ => rfl), PySem.W.Sortable.others (fun b => ⟨fun z => (nomatch z), fun _ z => (nomatch z)⟩), fun z _ => Nat.zero_le _, ?_, fun l2 ls H4 hl2 S4 hls hps => ?_⟩
    · intro x z H4 hx _ S4 Q' hQ'
      exact ⟨x, z, rfl, (S03.trans S4).item hx, hQ' _ _ (Same.refl _) (.inl ⟨_, rfl, rfl⟩)⟩
    rw [merge_sortK (key := BF.idKey) (fun a b => intD_lt _ _) (nodup_idKey hnd), ← BF.sortById_eq] at hps
    refine ⟨l2, rfl, ⟨_, .inl (.inl hls)⟩, ?_⟩
    have S04 := S03.trans S4
    have f4 := (S3.trans S4) _ _ f2
    let rw1 : Item → List Int := fun it => (it.id : Int) :: ((Kvg6.nearest s'.second it.box 1).2.flatMap fun q => [(q.1 : Int), q.2])
    have hlen : (Kvg6.sortById (Kvg6.itemsOfTree n s'.first)).length ≤ 48 := by
      rw [BF.sortById_eq, (BF.sortK_perm _).length_eq]
      exact g1.size
    have hll := hps.len
    have hoff : Same H (off H4 fd) := S04.off0 hfd0
    have hl2fd : l2 ≠ fd := (ne_of_none (S3 _ _ f2) (by assumption)).symm
    refine for_list (xs := ls) (fun i σ H5 => ∃ rows o2 o3 o4, σ = [some (.ref f), some (.ref fd), o2, o3, o4] ∧ Same (off H4 fd) H5 ∧ H5 fd = some (.lst rows) ∧ Paired (SeqI (off H5 fd)) rows (((Kvg6.sortById (Kvg6.itemsOfTree n s'.first)).take i).map rw1)) ?_ ?_ ?_ ?_
    · exact ⟨[], _, _, _, rfl, off_same, f4, by rw [List.take_zero]; exact .nil⟩
    · rintro i σ H5 _ ⟨rows, o2, o3, o4, rfl, S, _⟩
      exact .inl (.inl (S _ _ (off_at hls hl2fd)))
    · rintro i x σ H5 hx ⟨rows, o2, o3, o4, rfl, S, hr5, hp5⟩
      obtain ⟨it, hit, hxi⟩ := hps.get hx
      have SH := hoff.trans S
      obtain ⟨u1, w1, r1, rfl, g5, gb⟩ := SH.item hxi
      have hone := BF.nearest_one g2 it.box c1
      refine ⟨_, rfl, _, _, _, _, _, rfl, SH _ _ h1, (kcl_Forest T).cl, no_Forest_roots T, foF_roots, l, _, _, _, rfl, rfl, .inl (.inl (SH _ _ h2)), rfl, _, rfl, _, _, _, _, _, rfl, g5, (kcl_Item T).cl, no_Item_box T, itF_box, m, _, s'.second, r1, it.box, 1, rfl, SH.tree hv2, g2, gb, fun r pq us H6 hr6 hp6 S6 hr6' hus hpd hul => ?_⟩
      rw [show (1 : Int).toNat = 1 from rfl] at hr6' hpd
      generalize hnr : Kvg6.nearest s'.second it.box 1 = tot at *
      obtain ⟨z, hz⟩ : ∃ z, tot.2 = [z] := List.length_eq_one_iff.mp hone
      rw [hz] at hpd
      have hul1 : us.length = 1 := hpd.len
      obtain ⟨u0, hu0, q0, rfl, hq0⟩ := hpd.get2 (i := 0) (y := z) rfl
      have S06 := SH.trans S6
      have hr6f := S6 _ _ hr5
      refine ⟨r, _, rfl, .inl (.inl hr6'), rfl, _, _, rfl, _, _, rfl, rfl, ?_⟩
      refine ⟨_, rfl, .inl ⟨rfl, _, .inl (.inl hr6f)⟩, _, rfl, _, _, _, _, _, rfl, S6 _ _ g5, (kcl_Item T).cl, no_Item_number T, itF_number, _, rfl, pq, us, _, _, rfl, rfl, .inl (.inl hus), at_of (j := 0) rfl hu0, q0, _, _, _, rfl, rfl, .inl (.inl hq0), rfl, _, rfl, pq, us, _, _, rfl, rfl, .inl (.inl hus), at_of (j := 0) rfl hu0, q0, _, _, _, rfl, rfl, .inl (.inl hq0), rfl, by show 3 ≤ sizeLine; decide, fun w hw => ?_⟩
      have S7 := Same.upd (o := .tup [.int (it.id : Int), .int (z.1 : Int), .int z.2]) hw
      have hr7 := S7 _ _ hr6f
      have hwf : w ≠ fd := (ne_of_none hr6f hw).symm
      have hrl := hp5.len
      rw [List.length_map, List.length_take] at hrl
      refine ⟨fd, rows, _, rfl, rfl, hr7, Nat.lt_of_le_of_lt (show rows.length ≤ 48 by omega) (by decide), rows ++ [.ref w], _, _, _, rfl, ?_, upd_same, ?_⟩
      · exact ((S.trans S6).trans S7).upd2 (by unfold off; rw [if_pos rfl])
      · have htk : (Kvg6.sortById (Kvg6.itemsOfTree n s'.first)).take (i + 1) = (Kvg6.sortById (Kvg6.itemsOfTree n s'.first)).take i ++ [it] := by
          rw [List.take_add_one, hit]
          rfl
        have hrw : rw1 it = [(it.id : Int), (z.1 : Int), z.2] := by
          show (it.id : Int) :: ((Kvg6.nearest s'.second it.box 1).2.flatMap fun q => [(q.1 : Int), q.2]) = _
          rw [hnr, hz]
          rfl
        rw [off_upd, htk, List.map_append, List.map_cons, List.map_nil, hrw]
        exact Paired.app (Paired.impl (fun _ _ h => (Same.off (S6.trans S7)).seqI h) hp5) (Paired.one ⟨w, rfl, .inr (off_at upd_same hwf)⟩)
    · rintro σ H5 ⟨rows, o2, o3, o4, rfl, S, hr5, hp5⟩
      rw [hll, List.take_length] at hp5
      have SH := hoff.trans S
      have hrl := hp5.len
      rw [List.length_map] at hrl
      have hlen3 : ∀ it ∈ Kvg6.sortById (Kvg6.itemsOfTree n s'.first), (rw1 it).length ≤ 3 := fun it _ => by
        have hone := BF.nearest_one g2 it.box c1
        obtain ⟨z, hz⟩ : ∃ z, (Kvg6.nearest s'.second it.box 1).2 = [z] := List.length_eq_one_iff.mp hone
        show ((it.id : Int) :: ((Kvg6.nearest s'.second it.box 1).2.flatMap fun q => [(q.1 : Int), q.2])).length ≤ 3
        rw [hz]
        exact Nat.le_refl 3
      have hfl := flat_le hlen3
      refine ⟨_, rfl, fd, rows, rfl, .inl (.inl (.inl hr5)), by show 1 ≤ sizeLine; decide, fun o ho => ?_⟩
      have S6 := Same.upd (o := .lst [.int (rows.length : Nat)]) ho
      have ho1 := upd_same (H := H5) (a := o) (o := .lst [.int (rows.length : Nat)])
      generalize upd H5 o (.lst [.int (rows.length : Nat)]) = H6 at *
      refine ⟨_, rfl, fd, rows, (Kvg6.sortById (Kvg6.itemsOfTree n s'.first)).map rw1, rfl, S6 _ _ hr5, Paired.impl (fun _ _ h => (off_same.trans S6).seqI h) hp5, Nat.le_trans hfl (by omega), fun q' H7 hq' S7 h7 => ?_⟩
      refine ⟨o, q', _, _, rfl, rfl, S7 _ _ ho1, h7, line_small (by rw [List.length_map]; show 1 + _ ≤ _; omega), fun r hr0 => ?_⟩
      have S17 := (SH.trans S6).trans S7
      have hrun : (s'.run .joinNearest).2 = ⟨((s'.first.items.length : Nat) : Int), (Kvg6.sortById s'.first.items).flatMap rw1⟩ := snd_ifn (by rw [c1]; decide)
      refine k.new hrun (by omega) r _ (S17.free hr0) (S17.trans (Same.upd hr0)) ?_
      rw [upd_same, hrl, g1.items, BF.sortById_eq, (BF.sortK_perm _).length_eq]
      rfl
  · exact k.err (snd_if (by rw [← e1]; simpa using c)) (by decide) (Same.upd hlz)
end
end BFW
namespace BFW
open PySem PySem.Spec PyProof.Rows L2 BFH
open Kvg6 (Box Item)
open BF (BoxOk ItOk Lawful)
section
variable {P : Program} {w : World} {K : PySem.W.Frag} {mg : Str → Option Value} {base : Heap}
theorem iteNe {i j : Int} {A B : Prop} (h : i ≠ j) (b : B) : if decide (V.int i = V.int j) = true then A else B := by
  rw [decide_eq_false (fun z => h (V.int.inj z))]
  exact iteF b
theorem iteEq {i : Int} {A B : Prop} (a : A) : if decide (V.int i = V.int i) = true then A else B := by
  rw [decide_eq_true rfl]
  exact iteT a
/-- a list of lists of ints -/
def RowsL (H : Hp) (l : Addr) (rs : List (List Int)) : Prop := ∃ xs, H l = some (.lst xs) ∧ Paired (IntsL H) xs rs
theorem row1 {H : Hp} {l : Addr} {r : List Int} (h : RowsL H l [r]) : ∃ g, H l = some (.lst [.ref g]) ∧ H g = some (.lst (r.map V.int)) := by
  obtain ⟨xs, h1, h2⟩ := h
  cases h2 with
  | cons a b =>
    cases b
    obtain ⟨g, rfl, hg⟩ := a
    exact ⟨g, h1, hg⟩
theorem row2 {H : Hp} {l : Addr} {r r2 : List Int} (h : RowsL H l [r, r2]) : ∃ g g2, H l = some (.lst [.ref g, .ref g2]) ∧ H g = some (.lst (r.map V.int)) ∧ H g2 = some (.lst (r2.map V.int)) := by
  obtain ⟨xs, h1, h2⟩ := h
  cases h2 with
  | cons a b =>
    cases b with
    | cons c d =>
      cases d
      obtain ⟨g, rfl, hg⟩ := a
      obtain ⟨g2, rfl, hg2⟩ := c
      exact ⟨g, g2, h1, hg, hg2⟩

def spChanged (K : PySem.W.Frag) : Sp := fun vs H Q E => ∃ (f n l : Addr) (op : Int) (ns : List Int) (rs : List (List Int)) (o : Kvg6.Operation) (s : Kvg6.Index), vs = [.ref f, .int op, .ref n, .ref l] ∧ ForestAt K H f s ∧ H n = some (.lst (ns.map V.int)) ∧ RowsL H l rs ∧ Lawful op ns rs o ∧ 1 ≤ op ∧ op ≤ 6 ∧ OpOut K H f (s.run o) Q E
theorem sc_changed : FnScope ["forest", "operation", "numbers", "lists"] ["forest", "operation", "numbers", "lists"] (defScope s_changed) := ⟨rfl, rfl, rfl, by decide +kernel, rfl, by decide +kernel, by decide +kernel⟩
theorem k_changed (T : Tx K mg) : KnX P w K mg base "changed" 20 ["forest", "operation", "numbers", "lists"] (spChanged K) := by
  have F := T.fn1 95 (x := "changed") (st := s_changed) rfl
  have sc := sc_changed
  let st : Stmt := s_changed
  let nn : List Str := ["forest", "operation", "numbers", "lists"]
  refine ⟨F.okX sc (fun vs H Q E h => ?_) (fun cdv A outer s H vs Q E hr h => ?_), F.binds fun _ _ _ _ _ _ us hl => match us, hl with | [_, _, _, _], _ => rfl, F.kp, T.glo 79⟩

  · obtain ⟨f, n, l, op, ns, rs, o, s, rfl, _⟩ := h
    rfl
  obtain ⟨f, n, l, op, ns, rs, o, s, rfl, hf, hn, hr0, hL, h1, h2, k⟩ := h
  refine ⟨_, (pss_cons (ps_if (pt_cmpR op_eq (pv 1) pe_int (nomark _)) (pss_one (ps_ret (kmtX (k_Forest_insert T) (pv 0) hr (pa_cons (pe_ix ix_list (pv 2) pe_int (fun _ _ => rfl)) (pa_cons (pe_ix ix_list (pv 2) pe_int (fun _ _ => rfl)) (pa_cons (pe_ix ix_list (pv 3) pe_int (fun _ _ => rfl)) pa_nil))) (passes_call (takes_of rfl rfl rfl rfl) fun _ _ _ _ h => h)))) pss_nil)
      (pss_cons (ps_if (pt_cmpR op_eq (pv 1) pe_int (nomark _)) (pss_one (ps_ret (kmtX (k_Forest_remove_item T) (pv 0) hr (pa_cons (pe_ix ix_list (pv 2) pe_int (fun _ _ => rfl)) (pa_cons (pe_ix ix_list (pv 2) pe_int (fun _ _ => rfl)) pa_nil)) (passes_call (takes_of rfl rfl rfl rfl) fun _ _ _ _ h => h)))) pss_nil)
      (pss_cons (ps_if (pt_cmpR op_eq (pv 1) pe_int (nomark _)) (pss_one (ps_ret (kmtX (k_Forest_update_item T) (pv 0) hr (pa_cons (pe_ix ix_list (pv 2) pe_int (fun _ _ => rfl)) (pa_cons (pe_ix ix_list (pv 2) pe_int (fun _ _ => rfl)) (pa_cons (pe_ix ix_list (pv 3) pe_int (fun _ _ => rfl)) pa_nil))) (passes_call (takes_of rfl rfl rfl rfl) fun _ _ _ _ h => h)))) pss_nil)
      (pss_cons (ps_if (pt_cmpR op_eq (pv 1) pe_int (nomark _)) (pss_one (ps_ret (kmtX (k_Forest_bulk_load T) (pv 0) hr (pa_cons (pe_ix ix_list (pv 2) pe_int (fun _ _ => rfl)) (pa_cons (pe_ix ix_list (pv 3) pe_int (fun _ _ => rfl)) pa_nil)) (passes_call (takes_of rfl rfl rfl rfl) fun _ _ _ _ h => h)))) pss_nil)
      (pss_cons (ps_if (pt_cmpR op_eq (pv 1) pe_int (nomark _)) (pss_one (ps_ret (kmtX (k_Forest_rebuild T) (pv 0) hr (pa_cons (pe_ix ix_list (pv 2) pe_int (fun _ _ => rfl)) pa_nil) (passes_call (takes_of rfl rfl rfl rfl) fun _ _ _ _ h => h)))) pss_nil)
      (pss_one (ps_ret (kmt0 (k_Forest_swap_trees T) (pv 0) hr)))))))), ?_⟩
  have hff := hf
  obtain ⟨dx, lf, v1, v2, hd, _⟩ := hff
  cases hL <;> first | (exfalso; omega) | skip
  · rename_i i id r hr1
    obtain ⟨g, hl, hg⟩ := row1 hr0
    refine ⟨_, rfl, rfl, _, rfl, iteEq ?_⟩
    exact ⟨_, rfl, f, dx, _, rfl, hd, foF_none (by decide +kernel), _, rfl, n, _, _, _, rfl, rfl, .inl (.inl hn), rfl, _, rfl, n, _, _, _, rfl, rfl, .inl (.inl hn), rfl, _, rfl, l, _, _, _, rfl, rfl, .inl (.inl hl), rfl, f, g, i, id, r, s, rfl, hf, hg, by omega, k⟩
  · rename_i i id
    refine ⟨_, rfl, rfl, _, rfl, iteNe (by decide) ?_⟩
    refine ⟨_, rfl, rfl, _, rfl, iteEq ?_⟩
    exact ⟨_, rfl, f, dx, _, rfl, hd, foF_none (by decide +kernel), _, rfl, n, _, _, _, rfl, rfl, .inl (.inl hn), rfl, _, rfl, n, _, _, _, rfl, rfl, .inl (.inl hn), rfl, f, i, id, s, rfl, hf, k⟩
  · rename_i i id r hr1
    obtain ⟨g, hl, hg⟩ := row1 hr0
    refine ⟨_, rfl, rfl, _, rfl, iteNe (by decide) ?_⟩
    refine ⟨_, rfl, rfl, _, rfl, iteNe (by decide) ?_⟩
    refine ⟨_, rfl, rfl, _, rfl, iteEq ?_⟩
    exact ⟨_, rfl, f, dx, _, rfl, hd, foF_none (by decide +kernel), _, rfl, n, _, _, _, rfl, rfl, .inl (.inl hn), rfl, _, rfl, n, _, _, _, rfl, rfl, .inl (.inl hn), rfl, _, rfl, l, _, _, _, rfl, rfl, .inl (.inl hl), rfl, f, g, i, id, r, s, rfl, hf, hg, by omega, k⟩
  · rename_i i r hr1
    obtain ⟨g, hl, hg⟩ := row1 hr0
    refine ⟨_, rfl, rfl, _, rfl, iteNe (by decide) ?_⟩
    refine ⟨_, rfl, rfl, _, rfl, iteNe (by decide) ?_⟩
    refine ⟨_, rfl, rfl, _, rfl, iteNe (by decide) ?_⟩
    refine ⟨_, rfl, rfl, _, rfl, iteEq ?_⟩
    exact ⟨_, rfl, f, dx, _, rfl, hd, foF_none (by decide +kernel), _, rfl, n, _, _, _, rfl, rfl, .inl (.inl hn), rfl, _, rfl, l, _, _, _, rfl, rfl, .inl (.inl hl), rfl, f, g, i, r, s, rfl, hf, hg, by omega, k⟩
  · rename_i i
    refine ⟨_, rfl, rfl, _, rfl, iteNe (by decide) ?_⟩
    refine ⟨_, rfl, rfl, _, rfl, iteNe (by decide) ?_⟩
    refine ⟨_, rfl, rfl, _, rfl, iteNe (by decide) ?_⟩
    refine ⟨_, rfl, rfl, _, rfl, iteNe (by decide) ?_⟩
    refine ⟨_, rfl, rfl, _, rfl, iteEq ?_⟩
    exact ⟨_, rfl, f, dx, _, rfl, hd, foF_none (by decide +kernel), _, rfl, n, _, _, _, rfl, rfl, .inl (.inl hn), rfl, f, i, s, rfl, hf, k⟩
  · skip
    refine ⟨_, rfl, rfl, _, rfl, iteNe (by decide) ?_⟩
    refine ⟨_, rfl, rfl, _, rfl, iteNe (by decide) ?_⟩
    refine ⟨_, rfl, rfl, _, rfl, iteNe (by decide) ?_⟩
    refine ⟨_, rfl, rfl, _, rfl, iteNe (by decide) ?_⟩
    refine ⟨_, rfl, rfl, _, rfl, iteNe (by decide) ?_⟩
    exact ⟨_, rfl, f, dx, _, rfl, hd, foF_none (by decide +kernel), f, s, rfl, hf, k.new rfl (by decide)⟩
def spLooked (K : PySem.W.Frag) : Sp := fun vs H Q E => ∃ (f n l : Addr) (op : Int) (ns : List Int) (rs : List (List Int)) (o : Kvg6.Operation) (s : Kvg6.Index), vs = [.ref f, .int op, .ref n, .ref l] ∧ ForestAt K H f s ∧ H n = some (.lst (ns.map V.int)) ∧ RowsL H l rs ∧ Lawful op ns rs o ∧ 7 ≤ op ∧ op ≤ 12 ∧ QOut K H (s.run o).2 Q E
theorem sc_looked_up : FnScope ["forest", "operation", "numbers", "lists"] ["forest", "operation", "numbers", "lists"] (defScope s_looked_up) := ⟨rfl, rfl, rfl, by decide +kernel, rfl, by decide +kernel, by decide +kernel⟩
theorem k_looked_up (T : Tx K mg) : KnX P w K mg base "looked_up" 12 ["forest", "operation", "numbers", "lists"] (spLooked K) := by
  have F := T.fn1 96 (x := "looked_up") (st := s_looked_up) rfl
  have sc := sc_looked_up
  let st : Stmt := s_looked_up
  let nn : List Str := ["forest", "operation", "numbers", "lists"]
  refine ⟨F.okX sc (fun vs H Q E h => ?_) (fun cdv A outer s H vs Q E hr h => ?_), F.binds fun _ _ _ _ _ _ us hl => match us, hl with | [_, _, _, _], _ => rfl, F.kp, T.glo 80⟩

  · obtain ⟨f, n, l, op, ns, rs, o, s, rfl, _⟩ := h
    rfl
  obtain ⟨f, n, l, op, ns, rs, o, s, rfl, hf, hn, hr0, hL, h1, h2, k⟩ := h
  refine ⟨_, (pss_cons (ps_if (pt_cmpR op_eq (pv 1) pe_int (nomark _)) (pss_one (ps_ret (kcX (k_box_answer T) hr (pa_cons (pv 0) (pa_cons (pe_ix ix_list (pv 2) pe_int (fun _ _ => rfl)) (pa_cons (pe_ix ix_list (pv 2) pe_int (fun _ _ => rfl)) pa_nil))) (passes_call (takes_of rfl rfl rfl rfl) fun _ _ _ _ h => h)))) pss_nil)
      (pss_cons (ps_if (pt_cmpR op_eq (pv 1) pe_int (nomark _)) (pss_one (ps_ret (kcX (k_statistics T) hr (pa_cons (pv 0) (pa_cons (pe_ix ix_list (pv 2) pe_int (fun _ _ => rfl)) pa_nil)) (passes_call (takes_of rfl rfl rfl rfl) fun _ _ _ _ h => h)))) pss_nil)
      (pss_cons (ps_if (pt_cmpR op_eq (pv 1) pe_int (nomark _)) (pss_one (ps_ret (kcX (k_bounds T) hr (pa_cons (pv 0) (pa_cons (pe_ix ix_list (pv 2) pe_int (fun _ _ => rfl)) pa_nil)) (passes_call (takes_of rfl rfl rfl rfl) fun _ _ _ _ h => h)))) pss_nil)
      (pss_cons (ps_if (pt_cmpR op_eq (pv 1) pe_int (nomark _)) (pss_one (ps_ret (kcX (k_search_window T) hr (pa_cons (pv 0) (pa_cons (pe_ix ix_list (pv 2) pe_int (fun _ _ => rfl)) (pa_cons (pe_ix ix_list (pv 3) pe_int (fun _ _ => rfl)) pa_nil))) (passes_call (takes_of rfl rfl rfl rfl) fun _ _ _ _ h => h)))) pss_nil)
      (pss_cons (ps_if (pt_cmpR op_eq (pv 1) pe_int (nomark _)) (pss_one (ps_ret (kcX (k_search_contained T) hr (pa_cons (pv 0) (pa_cons (pe_ix ix_list (pv 2) pe_int (fun _ _ => rfl)) (pa_cons (pe_ix ix_list (pv 3) pe_int (fun _ _ => rfl)) pa_nil))) (passes_call (takes_of rfl rfl rfl rfl) fun _ _ _ _ h => h)))) pss_nil)
      (pss_one (ps_ret (kcX (k_search_covering T) hr (pa_cons (pv 0) (pa_cons (pe_ix ix_list (pv 2) pe_int (fun _ _ => rfl)) (pa_cons (pe_ix ix_list (pv 3) pe_int (fun _ _ => rfl)) pa_nil))) (passes_call (takes_of rfl rfl rfl rfl) fun _ _ _ _ h => h))))))))), ?_⟩
  have hff := hf
  obtain ⟨dx, lf, v1, v2, hd, _⟩ := hff
  cases hL <;> first | (exfalso; omega) | skip
  · rename_i i id
    refine ⟨_, rfl, rfl, _, rfl, iteEq ?_⟩
    exact ⟨_, rfl, _, rfl, n, _, _, _, rfl, rfl, .inl (.inl hn), rfl, _, rfl, n, _, _, _, rfl, rfl, .inl (.inl hn), rfl, f, i, id, s, rfl, hf, k⟩
  · rename_i i
    refine ⟨_, rfl, rfl, _, rfl, iteNe (by decide) ?_⟩
    refine ⟨_, rfl, rfl, _, rfl, iteEq ?_⟩
    exact ⟨_, rfl, _, rfl, n, _, _, _, rfl, rfl, .inl (.inl hn), rfl, f, i, s, rfl, hf, k⟩
  · rename_i i
    refine ⟨_, rfl, rfl, _, rfl, iteNe (by decide) ?_⟩
    refine ⟨_, rfl, rfl, _, rfl, iteNe (by decide) ?_⟩
    refine ⟨_, rfl, rfl, _, rfl, iteEq ?_⟩
    exact ⟨_, rfl, _, rfl, n, _, _, _, rfl, rfl, .inl (.inl hn), rfl, f, i, s, rfl, hf, k⟩
  · rename_i i r hr1
    obtain ⟨g, hl, hg⟩ := row1 hr0
    refine ⟨_, rfl, rfl, _, rfl, iteNe (by decide) ?_⟩
    refine ⟨_, rfl, rfl, _, rfl, iteNe (by decide) ?_⟩
    refine ⟨_, rfl, rfl, _, rfl, iteNe (by decide) ?_⟩
    refine ⟨_, rfl, rfl, _, rfl, iteEq ?_⟩
    exact ⟨_, rfl, _, rfl, n, _, _, _, rfl, rfl, .inl (.inl hn), rfl, _, rfl, l, _, _, _, rfl, rfl, .inl (.inl hl), rfl, f, g, i, r, s, rfl, hf, hg, by omega, k⟩
  · rename_i i r hr1
    obtain ⟨g, hl, hg⟩ := row1 hr0
    refine ⟨_, rfl, rfl, _, rfl, iteNe (by decide) ?_⟩
    refine ⟨_, rfl, rfl, _, rfl, iteNe (by decide) ?_⟩
    refine ⟨_, rfl, rfl, _, rfl, iteNe (by decide) ?_⟩
    refine ⟨_, rfl, rfl, _, rfl, iteNe (by decide) ?_⟩
    refine ⟨_, rfl, rfl, _, rfl, iteEq ?_⟩
    exact ⟨_, rfl, _, rfl, n, _, _, _, rfl, rfl, .inl (.inl hn), rfl, _, rfl, l, _, _, _, rfl, rfl, .inl (.inl hl), rfl, f, g, i, r, s, rfl, hf, hg, by omega, k⟩
  · rename_i i r hr1
    obtain ⟨g, hl, hg⟩ := row1 hr0
    refine ⟨_, rfl, rfl, _, rfl, iteNe (by decide) ?_⟩
    refine ⟨_, rfl, rfl, _, rfl, iteNe (by decide) ?_⟩
    refine ⟨_, rfl, rfl, _, rfl, iteNe (by decide) ?_⟩
    refine ⟨_, rfl, rfl, _, rfl, iteNe (by decide) ?_⟩
    refine ⟨_, rfl, rfl, _, rfl, iteNe (by decide) ?_⟩
    exact ⟨_, rfl, _, rfl, n, _, _, _, rfl, rfl, .inl (.inl hn), rfl, _, rfl, l, _, _, _, rfl, rfl, .inl (.inl hl), rfl, f, g, i, r, s, rfl, hf, hg, by omega, k⟩
def spSearched (K : PySem.W.Frag) : Sp := fun vs H Q E => ∃ (f n : Addr) (op : Int) (ns : List Int) (rs : List (List Int)) (o : Kvg6.Operation) (s : Kvg6.Index), vs = [.ref f, .int op, .ref n] ∧ ForestAt K H f s ∧ H n = some (.lst (ns.map V.int)) ∧ Lawful op ns rs o ∧ 13 ≤ op ∧ op ≤ 18 ∧ QOut K H (s.run o).2 Q E
theorem sc_searched : FnScope ["forest", "operation", "numbers"] ["forest", "operation", "numbers"] (defScope s_searched) := ⟨rfl, rfl, rfl, by decide +kernel, rfl, by decide +kernel, by decide +kernel⟩
theorem k_searched (T : Tx K mg) : KnX P w K mg base "searched" 10 ["forest", "operation", "numbers"] (spSearched K) := by
  have F := T.fn1 97 (x := "searched") (st := s_searched) rfl
  have sc := sc_searched
  let st : Stmt := s_searched
  let nn : List Str := ["forest", "operation", "numbers"]
  refine ⟨F.okX sc (fun vs H Q E h => ?_) (fun cdv A outer s H vs Q E hr h => ?_), F.binds fun _ _ _ _ _ _ us hl => match us, hl with | [_, _, _], _ => rfl, F.kp, T.glo 81⟩

  · obtain ⟨f, n, op, ns, rs, o, s, rfl, _⟩ := h
    rfl
  obtain ⟨f, n, op, ns, rs, o, s, rfl, hf, hn, hL, h1, h2, k⟩ := h
  refine ⟨_, (pss_cons (ps_if (pt_cmpR op_eq (pv 1) pe_int (nomark _)) (pss_one (ps_ret (kcX (k_search_within T) hr (pa_cons (pv 0) (pa_cons (pe_ix ix_list (pv 2) pe_int (fun _ _ => rfl)) (pa_cons (pe_ix ix_list (pv 2) pe_int (fun _ _ => rfl)) (pa_cons (pe_ix ix_list (pv 2) pe_int (fun _ _ => rfl)) (pa_cons (pe_ix ix_list (pv 2) pe_int (fun _ _ => rfl)) pa_nil))))) (passes_call (takes_of rfl rfl rfl rfl) fun _ _ _ _ h => h)))) pss_nil)
      (pss_cons (ps_if (pt_cmpR op_eq (pv 1) pe_int (nomark _)) (pss_one (ps_ret (kcX (k_nearest T) hr (pa_cons (pv 0) (pa_cons (pe_ix ix_list (pv 2) pe_int (fun _ _ => rfl)) (pa_cons (pe_ix ix_list (pv 2) pe_int (fun _ _ => rfl)) (pa_cons (pe_ix ix_list (pv 2) pe_int (fun _ _ => rfl)) (pa_cons (pe_ix ix_list (pv 2) pe_int (fun _ _ => rfl)) pa_nil))))) (passes_call (takes_of rfl rfl rfl rfl) fun _ _ _ _ h => h)))) pss_nil)
      (pss_cons (ps_if (pt_cmpR op_eq (pv 1) pe_int (nomark _)) (pss_one (ps_ret (kc (k_join_trees T) hr (pa_cons (pv 0) (pa_cons pe_int pa_nil))))) pss_nil)
      (pss_cons (ps_if (pt_cmpR op_eq (pv 1) pe_int (nomark _)) (pss_one (ps_ret (kc (k_join_trees T) hr (pa_cons (pv 0) (pa_cons (pe_ix ix_list (pv 2) pe_int (fun _ _ => rfl)) pa_nil))))) pss_nil)
      (pss_cons (ps_if (pt_cmpR op_eq (pv 1) pe_int (nomark _)) (pss_one (ps_ret (kcX (k_join_nearest T) hr (pa_cons (pv 0) pa_nil) (passes_call (takes_of rfl rfl rfl rfl) fun _ _ _ _ h => h)))) pss_nil)
      (pss_one (ps_ret (kcX (k_self_join T) hr (pa_cons (pv 0) (pa_cons (pe_ix ix_list (pv 2) pe_int (fun _ _ => rfl)) pa_nil)) (passes_call (takes_of rfl rfl rfl rfl) fun _ _ _ _ h => h))))))))), ?_⟩
  have hff := hf
  obtain ⟨dx, lf, v1, v2, hd, _⟩ := hff
  cases hL <;> first | (exfalso; omega) | skip
  · rename_i i x y d hd2
    refine ⟨_, rfl, rfl, _, rfl, iteEq ?_⟩
    exact ⟨_, rfl, _, rfl, n, _, _, _, rfl, rfl, .inl (.inl hn), rfl, _, rfl, n, _, _, _, rfl, rfl, .inl (.inl hn), rfl, _, rfl, n, _, _, _, rfl, rfl, .inl (.inl hn), rfl, _, rfl, n, _, _, _, rfl, rfl, .inl (.inl hn), rfl, f, i, x, y, d, s, rfl, hf, by omega, k⟩
  · rename_i i x y d
    refine ⟨_, rfl, rfl, _, rfl, iteNe (by decide) ?_⟩
    refine ⟨_, rfl, rfl, _, rfl, iteEq ?_⟩
    exact ⟨_, rfl, _, rfl, n, _, _, _, rfl, rfl, .inl (.inl hn), rfl, _, rfl, n, _, _, _, rfl, rfl, .inl (.inl hn), rfl, _, rfl, n, _, _, _, rfl, rfl, .inl (.inl hn), rfl, _, rfl, n, _, _, _, rfl, rfl, .inl (.inl hn), rfl, f, i, x, y, d, s, rfl, hf, k⟩
  · skip
    refine ⟨_, rfl, rfl, _, rfl, iteNe (by decide) ?_⟩
    refine ⟨_, rfl, rfl, _, rfl, iteNe (by decide) ?_⟩
    refine ⟨_, rfl, rfl, _, rfl, iteEq ?_⟩
    exact ⟨_, rfl, f, 0, s, Kvg6.intersects, rfl, hf, by decide, fun a b ha hb => BF.meets_iff ha hb, k.2 (Int.natCast_nonneg _)⟩
  · rename_i d hd2
    refine ⟨_, rfl, rfl, _, rfl, iteNe (by decide) ?_⟩
    refine ⟨_, rfl, rfl, _, rfl, iteNe (by decide) ?_⟩
    refine ⟨_, rfl, rfl, _, rfl, iteNe (by decide) ?_⟩
    refine ⟨_, rfl, rfl, _, rfl, iteEq ?_⟩
    exact ⟨_, rfl, _, rfl, n, _, _, _, rfl, rfl, .inl (.inl hn), rfl, f, d, s, (fun a b => decide (Kvg6.squaredDistance a b ≤ (d * d : Nat))), rfl, hf, by omega, fun a b ha hb => by rw [Int.natCast_mul], k.2 (Int.natCast_nonneg _)⟩
  · skip
    refine ⟨_, rfl, rfl, _, rfl, iteNe (by decide) ?_⟩
    refine ⟨_, rfl, rfl, _, rfl, iteNe (by decide) ?_⟩
    refine ⟨_, rfl, rfl, _, rfl, iteNe (by decide) ?_⟩
    refine ⟨_, rfl, rfl, _, rfl, iteNe (by decide) ?_⟩
    refine ⟨_, rfl, rfl, _, rfl, iteEq ?_⟩
    exact ⟨_, rfl, f, s, rfl, hf, k⟩
  · rename_i i
    refine ⟨_, rfl, rfl, _, rfl, iteNe (by decide) ?_⟩
    refine ⟨_, rfl, rfl, _, rfl, iteNe (by decide) ?_⟩
    refine ⟨_, rfl, rfl, _, rfl, iteNe (by decide) ?_⟩
    refine ⟨_, rfl, rfl, _, rfl, iteNe (by decide) ?_⟩
    refine ⟨_, rfl, rfl, _, rfl, iteNe (by decide) ?_⟩
    exact ⟨_, rfl, _, rfl, n, _, _, _, rfl, rfl, .inl (.inl hn), rfl, f, i, s, rfl, hf, k⟩
def spMeasured (K : PySem.W.Frag) : Sp := fun vs H Q E => ∃ (f n l : Addr) (op : Int) (ns : List Int) (rs : List (List Int)) (o : Kvg6.Operation) (s : Kvg6.Index), vs = [.ref f, .int op, .ref n, .ref l] ∧ ForestAt K H f s ∧ H n = some (.lst (ns.map V.int)) ∧ RowsL H l rs ∧ Lawful op ns rs o ∧ 19 ≤ op ∧ op ≤ 25 ∧ QOut K H (s.run o).2 Q E
theorem sc_measured : FnScope ["forest", "operation", "numbers", "lists"] ["forest", "operation", "numbers", "lists"] (defScope s_measured) := ⟨rfl, rfl, rfl, by decide +kernel, rfl, by decide +kernel, by decide +kernel⟩
theorem k_measured (T : Tx K mg) : KnX P w K mg base "measured" 10 ["forest", "operation", "numbers", "lists"] (spMeasured K) := by
  have F := T.fn1 98 (x := "measured") (st := s_measured) rfl
  have sc := sc_measured
  let st : Stmt := s_measured
  let nn : List Str := ["forest", "operation", "numbers", "lists"]
  refine ⟨F.okX sc (fun vs H Q E h => ?_) (fun cdv A outer s H vs Q E hr h => ?_), F.binds fun _ _ _ _ _ _ us hl => match us, hl with | [_, _, _, _], _ => rfl, F.kp, T.glo 82⟩

  · obtain ⟨f, n, l, op, ns, rs, o, s, rfl, _⟩ := h
    rfl
  obtain ⟨f, n, l, op, ns, rs, o, s, rfl, hf, hn, hr0, hL, h1, h2, k⟩ := h
  refine ⟨_, (pss_cons (ps_if (pt_cmpR op_eq (pv 1) pe_int (nomark _)) (pss_one (ps_ret (kcX (k_describe T) hr (pa_cons (pv 0) (pa_cons (pe_ix ix_list (pv 2) pe_int (fun _ _ => rfl)) pa_nil)) (passes_call (takes_of rfl rfl rfl rfl) fun _ _ _ _ h => h)))) pss_nil)
      (pss_cons (ps_if (pt_cmpR op_eq (pv 1) pe_int (nomark _)) (pss_one (ps_ret (kcX (k_node_boxes T) hr (pa_cons (pv 0) (pa_cons (pe_ix ix_list (pv 2) pe_int (fun _ _ => rfl)) (pa_cons (pe_ix ix_list (pv 2) pe_int (fun _ _ => rfl)) pa_nil))) (passes_call (takes_of rfl rfl rfl rfl) fun _ _ _ _ h => h)))) pss_nil)
      (pss_cons (ps_if (pt_cmpR op_eq (pv 1) pe_int (nomark _)) (pss_one (ps_ret (kcX (k_quality T) hr (pa_cons (pv 0) (pa_cons (pe_ix ix_list (pv 2) pe_int (fun _ _ => rfl)) pa_nil)) (passes_call (takes_of rfl rfl rfl rfl) fun _ _ _ _ h => h)))) pss_nil)
      (pss_cons (ps_if (pt_cmpR op_eq (pv 1) pe_int (nomark _)) (pss_one (ps_ret (kcX (k_hilbert_value T) hr (pa_cons (pe_ix ix_list (pv 3) pe_int (fun _ _ => rfl)) pa_nil) (passes_call (takes_of rfl rfl rfl rfl) fun _ _ _ _ h => h)))) pss_nil)
      (pss_cons (ps_if (pt_cmpR op_eq (pv 1) pe_int (nomark _)) (pss_one (ps_ret (kcX (k_histogram_answer T) hr (pa_cons (pv 0) (pa_cons (pe_ix ix_list (pv 2) pe_int (fun _ _ => rfl)) (pa_cons (pe_ix ix_list (pv 2) pe_int (fun _ _ => rfl)) (pa_cons (pe_ix ix_list (pv 3) pe_int (fun _ _ => rfl)) pa_nil)))) (passes_call (takes_of rfl rfl rfl rfl) fun _ _ _ _ h => h)))) pss_nil)
      (pss_cons (ps_if (pt_cmpR op_eq (pv 1) pe_int (nomark _)) (pss_one (ps_ret (kcX (k_estimate_answer T) hr (pa_cons (pv 0) (pa_cons (pe_ix ix_list (pv 2) pe_int (fun _ _ => rfl)) (pa_cons (pe_ix ix_list (pv 2) pe_int (fun _ _ => rfl)) (pa_cons (pe_ix ix_list (pv 3) pe_int (fun _ _ => rfl)) (pa_cons (pe_ix ix_list (pv 3) pe_int (fun _ _ => rfl)) pa_nil))))) (passes_call (takes_of rfl rfl rfl rfl) fun _ _ _ _ h => h)))) pss_nil)
      (pss_one (ps_ret (kcX (k_choose_node T) hr (pa_cons (pv 0) (pa_cons (pe_ix ix_list (pv 2) pe_int (fun _ _ => rfl)) (pa_cons (pe_ix ix_list (pv 3) pe_int (fun _ _ => rfl)) pa_nil))) (passes_call (takes_of rfl rfl rfl rfl) fun _ _ _ _ h => h)))))))))), ?_⟩
  have hff := hf
  obtain ⟨dx, lf, v1, v2, hd, _⟩ := hff
  cases hL <;> first | (exfalso; omega) | skip
  · rename_i i
    refine ⟨_, rfl, rfl, _, rfl, iteEq ?_⟩
    exact ⟨_, rfl, _, rfl, n, _, _, _, rfl, rfl, .inl (.inl hn), rfl, f, i, s, rfl, hf, k⟩
  · rename_i i lv
    refine ⟨_, rfl, rfl, _, rfl, iteNe (by decide) ?_⟩
    refine ⟨_, rfl, rfl, _, rfl, iteEq ?_⟩
    exact ⟨_, rfl, _, rfl, n, _, _, _, rfl, rfl, .inl (.inl hn), rfl, _, rfl, n, _, _, _, rfl, rfl, .inl (.inl hn), rfl, f, i, lv, s, rfl, hf, k⟩
  · rename_i i
    refine ⟨_, rfl, rfl, _, rfl, iteNe (by decide) ?_⟩
    refine ⟨_, rfl, rfl, _, rfl, iteNe (by decide) ?_⟩
    refine ⟨_, rfl, rfl, _, rfl, iteEq ?_⟩
    exact ⟨_, rfl, _, rfl, n, _, _, _, rfl, rfl, .inl (.inl hn), rfl, f, i, s, rfl, hf, k⟩
  · rename_i r hr1
    obtain ⟨g, hl, hg⟩ := row1 hr0
    refine ⟨_, rfl, rfl, _, rfl, iteNe (by decide) ?_⟩
    refine ⟨_, rfl, rfl, _, rfl, iteNe (by decide) ?_⟩
    refine ⟨_, rfl, rfl, _, rfl, iteNe (by decide) ?_⟩
    refine ⟨_, rfl, rfl, _, rfl, iteEq ?_⟩
    exact ⟨_, rfl, l, _, _, _, rfl, rfl, .inl (.inl hl), rfl, g, r, s, rfl, hg, by omega, k⟩
  · rename_i i size r hr1
    obtain ⟨g, hl, hg⟩ := row1 hr0
    refine ⟨_, rfl, rfl, _, rfl, iteNe (by decide) ?_⟩
    refine ⟨_, rfl, rfl, _, rfl, iteNe (by decide) ?_⟩
    refine ⟨_, rfl, rfl, _, rfl, iteNe (by decide) ?_⟩
    refine ⟨_, rfl, rfl, _, rfl, iteNe (by decide) ?_⟩
    refine ⟨_, rfl, rfl, _, rfl, iteEq ?_⟩
    exact ⟨_, rfl, _, rfl, n, _, _, _, rfl, rfl, .inl (.inl hn), rfl, _, rfl, n, _, _, _, rfl, rfl, .inl (.inl hn), rfl, _, rfl, l, _, _, _, rfl, rfl, .inl (.inl hl), rfl, f, g, i, size, r, s, rfl, hf, hg, by omega, k⟩
  · rename_i i size r r2 hr1 hr2
    obtain ⟨g, g2, hl, hg, hg2⟩ := row2 hr0
    refine ⟨_, rfl, rfl, _, rfl, iteNe (by decide) ?_⟩
    refine ⟨_, rfl, rfl, _, rfl, iteNe (by decide) ?_⟩
    refine ⟨_, rfl, rfl, _, rfl, iteNe (by decide) ?_⟩
    refine ⟨_, rfl, rfl, _, rfl, iteNe (by decide) ?_⟩
    refine ⟨_, rfl, rfl, _, rfl, iteNe (by decide) ?_⟩
    refine ⟨_, rfl, rfl, _, rfl, iteEq ?_⟩
    exact ⟨_, rfl, _, rfl, n, _, _, _, rfl, rfl, .inl (.inl hn), rfl, _, rfl, n, _, _, _, rfl, rfl, .inl (.inl hn), rfl, _, rfl, l, _, _, _, rfl, rfl, .inl (.inl hl), rfl, _, rfl, l, _, _, _, rfl, rfl, .inl (.inl hl), rfl, f, g, g2, i, size, r, r2, s, rfl, hf, hg, hg2, by omega, by omega, k⟩
  · rename_i i r hr1
    obtain ⟨g, hl, hg⟩ := row1 hr0
    refine ⟨_, rfl, rfl, _, rfl, iteNe (by decide) ?_⟩
    refine ⟨_, rfl, rfl, _, rfl, iteNe (by decide) ?_⟩
    refine ⟨_, rfl, rfl, _, rfl, iteNe (by decide) ?_⟩
    refine ⟨_, rfl, rfl, _, rfl, iteNe (by decide) ?_⟩
    refine ⟨_, rfl, rfl, _, rfl, iteNe (by decide) ?_⟩
    refine ⟨_, rfl, rfl, _, rfl, iteNe (by decide) ?_⟩
    exact ⟨_, rfl, _, rfl, n, _, _, _, rfl, rfl, .inl (.inl hn), rfl, _, rfl, l, _, _, _, rfl, rfl, .inl (.inl hl), rfl, f, g, i, r, s, rfl, hf, hg, by omega, k⟩
end
end BFW
namespace BFW
open PySem PySem.Spec PyProof.Rows L2 BFH
open Kvg6 (Box Item)
open BF (BoxOk ItOk Lawful)
/-- o.m(e, ..) within a try: what it raises is wished for at the slots as they stand -/
def tMethS (C : Addr) (m : Str) (sp : Sp) (E : L2.St → XK) (ta : TE) (t : TA) : TE := fun σ H Q => ta σ H fun x H1 => ∃ a dx fs, x = .ref a ∧ H1 a = some (.ins C dx fs) ∧ fs.lookup m = none ∧ t σ H1 fun vs H2 => sp (x :: vs) H2 Q (E σ)
theorem pe_methS {X : Cx} {CX : CXT} {k : Nat} {f C : Addr} {fd : FuncData} {ps : List Str} {sp : Sp} {E : L2.St → XK} {m : Str} {pos apos : Pos} {e o : Expr} {es : List Expr} {ta : TE} {t : TA} {pl : Sem Bool} (he : PE X o ta) (c : Cls X.K C) (hm : Meth X.K C m f)
    (F : FnOk X.prog X.w X.K X.mg X.base CX k f fd ps sp) (hr : Room k X.A) (hb : Binds X.K fd ps []) (hx : ∀ σ, PassesAt CX X σ (E σ)) (ha : PA X (e :: es) t)
    (hst : starEach (e :: es) X.env = (false, eval e X.env) :: starEach es X.env := by rfl) (hpl : (backTo pos (starEach es X.env)).any (·.1) = false := by rfl)
    (ht : eval (.Call (.Attribute o m apos) (e :: es) [] pos) X.env = (do
      let ov ← eval o X.env
      standAt apos.atName
      let (f, first) ← holding [ov] (getMethod ov m pl)
      callWith pos f first (backTo pos (starEach (e :: es) X.env)) (backToKw pos (keywordEach [] X.env))) := by rfl) :
    PE X (.Call (.Attribute o m apos) (e :: es) [] pos) (tMethS C m sp E ta t) := by
  refine ⟨fun pins s σ H Q I h => ?_⟩
  refine PySem.W.methodCall_KW (pl := pl) (thn (he.run pins s σ H _ I h) fun u s1 ⟨x, H1, I1, rx, a, dx, fs, ex, ea, l, q⟩ => ?_) ht
  subst ex
  obtain rfl : u = Value.ref a := rx
  refine getmeth_ok I1 ea c hm l ?_
  refine PySem.W.callWith_K (first := [.ref a]) (h₀ := X.base) I.ok.mod.kin hm.kp (thn (ha.run pos pins s1 σ H1 _ I1 q) fun us s2 ⟨vs, H2, I2, r, q2⟩ => ⟨I2.kIn, ?_⟩) hst hpl
  exact run_fnS (us := .ref a :: us) (vs := .ref a :: vs) F hr hb (hx σ) I2 (.cons rfl r) q2
section
variable {P : Program} {w : World} {K : PySem.W.Frag} {mg : Str → Option Value} {base : Heap}
theorem kcl_Session (T : Tx K mg) : KCl K mg "Session" (He.ma K (He.ga K "Session") "__init__") := ⟨He.cls_ok (T.fact 133), He.mkr_ok (T.fact 134), T.glo 89⟩
theorem no_Session_forest (T : Tx K mg) : NoAttr K (He.ga K "Session") "forest" := He.noat_ok (T.fact 135)
theorem meth_Session_does (T : Tx K mg) : Meth K (He.ga K "Session") "does" (He.ma K (He.ga K "Session") "does") := He.meth_ok (T.fact 145)
theorem meth_Session_answer (T : Tx K mg) : Meth K (He.ga K "Session") "answer" (He.ma K (He.ga K "Session") "answer") := He.meth_ok (T.fact 146)
/-! ### what is none of a tree's objects -/
structure Foreign (o : HO) : Prop where
  item : ∀ C dx n q, o ≠ .ins C dx (itF n q)
  node : ∀ C dx l e b, o ≠ .ins C dx (ndF l e b)
  fo : ∀ C dx l, o ≠ .ins C dx (foF l)
  tup : ∀ xs, o ≠ .tup xs
  lst : ∀ vs, o = .lst vs → ∃ i r, vs = V.int i :: r
section
variable {H : Hp} {f : Addr} {o : HO}
theorem ent_offG (hf : H f = some o) (F : Foreign o) {v : V} {b : Box} (h : Ent K H v b) : Ent K (off H f) v b := by
  obtain ⟨a, C', dx', fs, q, rfl, h1, h2, h3, h4⟩ := h
  refine ⟨a, C', dx', fs, q, rfl, off_ne h1 hf ?_, h2, off_ne h3 hf (fun z => F.tup _ z.symm), h4⟩
  rcases h2 with ⟨_, n, rfl⟩ | ⟨_, l', e, rfl⟩
  · exact fun z => F.item _ _ _ _ z.symm
  · exact fun z => F.node _ _ _ _ _ z.symm
theorem item_offG (hf : H f = some o) (F : Foreign o) {v : V} {b : Item} (h : ItemAt K H v b) : ItemAt K (off H f) v b := by
  obtain ⟨a, dx', q, rfl, h1, h3, h4⟩ := h
  exact ⟨a, dx', q, rfl, off_ne h1 hf (fun z => F.item _ _ _ _ z.symm), off_ne h3 hf (fun z => F.tup _ z.symm), h4⟩
theorem nodeV_offG (hf : H f = some o) (F : Foreign o) {lv : Int} {vs : List V} {bs : List Box} {v : V} (h : NodeV K H lv vs bs v) : NodeV K (off H f) lv vs bs v := by
  obtain ⟨p, dx', e, bv, rfl, h1, h2, h3, h4⟩ := h
  refine ⟨p, dx', e, bv, rfl, off_ne h1 hf (fun z => F.node _ _ _ _ _ z.symm), off_ne h2 hf ?_, Paired.impl (fun _ _ => ent_offG hf F) h3, ?_⟩
  · intro z
    obtain ⟨i, r, rfl⟩ := F.lst _ z.symm
    cases h3 with
    | cons a _ =>
      obtain ⟨_, _, _, _, _, z2, _⟩ := a
      cases z2
  · rcases h4 with h4 | ⟨h4, q, rfl, h5, h6⟩
    · exact .inl h4
    · exact .inr ⟨h4, q, rfl, off_ne h5 hf (fun z => F.tup _ z.symm), h6⟩
theorem tree_offG (hf : H f = some o) (F : Foreign o) : ∀ {n : Nat} {v : V} {t : Kvg6.Tree}, TreeV K H n v t → TreeV K (off H f) n v t
  | 0, v, .leaf items, h => by
    obtain ⟨h0, vs, h1, h2⟩ := h
    exact ⟨h0, vs, nodeV_offG hf F h1, Paired.impl (fun _ _ => item_offG hf F) h2⟩
  | n + 1, v, .node ch, h => by
    obtain ⟨h0, vs, h1, h2⟩ := h
    exact ⟨h0, vs, nodeV_offG hf F h1, Paired.impl (fun _ _ => tree_offG hf F) h2⟩
  | 0, _, .node _, h => h.elim
  | _ + 1, _, .leaf _, h => h.elim
theorem tv_offG (hf : H f = some o) (F : Foreign o) {v : V} {t : Kvg6.Tree} (h : TV K H v t) : TV K (off H f) v t := by
  obtain ⟨n, h1, h2⟩ := h
  exact ⟨n, tree_offG hf F h1, h2⟩
theorem tv_ref {v : V} {t : Kvg6.Tree} (h : TV K H v t) : ∃ a, v = .ref a := by
  obtain ⟨n, h1, _⟩ := h
  obtain ⟨p, _, _, _, _, e, _⟩ := h1.at_
  exact ⟨p, e⟩
theorem forest_offG (hf : H f = some o) (F : Foreign o) {a : Addr} {s : Kvg6.Index} (h : ForestAt K H a s) : ForestAt K (off H f) a s := by
  obtain ⟨dx, l, v1, v2, h1, h2, h3, h4⟩ := h
  refine ⟨dx, l, v1, v2, off_ne h1 hf (fun z => F.fo _ _ _ z.symm), off_ne h2 hf ?_, tv_offG hf F h3, tv_offG hf F h4⟩
  intro z
  obtain ⟨i, r, e⟩ := F.lst _ z.symm
  obtain ⟨a1, rfl⟩ := tv_ref h3
  injection e with e1 _
  cases e1
theorem foreign_ints {ms : List Int} (h : ms ≠ []) : Foreign (.lst (ms.map V.int)) := by
  refine ⟨fun _ _ _ _ z => (nomatch z), fun _ _ _ _ _ z => (nomatch z), fun _ _ _ z => (nomatch z), fun _ z => (nomatch z), fun vs z => ?_⟩
  cases ms with
  | nil => exact absurd rfl h
  | cons i r => exact ⟨i, r.map V.int, (HO.lst.inj z).symm⟩
end
/-! ### the session in the heap -/
def seF (v : V) : List (Str × V) := [("forest", v)]
theorem seF_forest {v : V} : (seF v).lookup ("forest" : Str) = some v := lk_here
theorem seF_none {v : V} {f : Str} (h : (f == ("forest" : Str)) = false) : (seF v).lookup f = none := (lk_past h).trans rfl
theorem foreign_ses {C dx : Addr} {v : V} : Foreign (.ins C dx (seF v)) := by
  refine ⟨fun _ _ _ _ z => ?_, fun _ _ _ _ _ z => ?_, fun _ _ _ z => ?_, fun _ z => (nomatch z), fun _ z => (nomatch z)⟩
  · injection z with _ _ z
    cases z
  · injection z with _ _ z
    cases z
  · injection z with _ _ z
    injection z with z _
    injection z with z _
    exact absurd z (by decide +kernel)
def HasF (K : PySem.W.Frag) (H : Hp) (v : V) : Kvg6.State → Prop
  | none => v = .non
  | some s => ∃ f, v = .ref f ∧ ForestAt K H f s
def SesAt (K : PySem.W.Frag) (H : Hp) (p : Addr) (st : Kvg6.State) : Prop := ∃ dx v, H p = some (.ins (He.ga K "Session") dx (seF v)) ∧ HasF K H v st
theorem _root_.L2.Same.hasF {H H' : Hp} {v : V} {st : Kvg6.State} (S : Same H H') (h : HasF K H v st) : HasF K H' v st := by
  cases st with
  | none => exact h
  | some s =>
    obtain ⟨f, e, hf⟩ := h
    exact ⟨f, e, S.forest hf⟩
theorem _root_.L2.Same.ses {H H' : Hp} {p : Addr} {st : Kvg6.State} (S : Same H H') (h : SesAt K H p st) : SesAt K H' p st := by
  obtain ⟨dx, v, h1, h2⟩ := h
  exact ⟨dx, v, S _ _ h1, S.hasF h2⟩
/-- without a list of ints: the session stands -/
theorem ses_off {H : Hp} {p z : Addr} {st : Kvg6.State} {ms : List Int} (h : SesAt K H p st) (hz : H z = some (.lst (ms.map V.int))) (hne : st ≠ none → ms ≠ []) : SesAt K (off H z) p st := by
  obtain ⟨dx, v, h1, h2⟩ := h
  refine ⟨dx, v, off_ne h1 hz (fun q => nomatch q), ?_⟩
  cases st with
  | none => exact h2
  | some s =>
    obtain ⟨f, e, hf⟩ := h2
    exact ⟨f, e, forest_offG hz (foreign_ints (hne (fun q => nomatch q))) hf⟩
/-- all but instances is as it was -/
def Calm (H H' : Hp) : Prop := ∀ b o, (∀ C dx fs, o ≠ HO.ins C dx fs) → H b = some o → H' b = some o
theorem Calm.of {H H' : Hp} (S : Same H H') : Calm H H' := fun b o _ e => S b o e
theorem Calm.trans {H H1 H2 : Hp} (a : Calm H H1) (b : Calm H1 H2) : Calm H H2 := fun c o n e => b c o n (a c o n e)
theorem But.calm {H H' : Hp} {f C dx : Addr} {fs : List (Str × V)} (B : But f H H') (hf : H f = some (.ins C dx fs)) : Calm H H' := fun b o n e => B b o (fun z => by
  rw [z, hf] at e
  exact n _ _ _ (Option.some.inj e).symm) e
theorem Calm.ints {H H' : Hp} {a : Addr} {xs : List V} (c : Calm H H') (h : H a = some (.lst xs)) : H' a = some (.lst xs) := c _ _ (fun _ _ _ z => nomatch z) h
theorem Calm.tups {H H' : Hp} {a : Addr} {xs : List V} (c : Calm H H') (h : H a = some (.tup xs)) : H' a = some (.tup xs) := c _ _ (fun _ _ _ z => nomatch z) h
theorem Calm.seq {H H' : Hp} {a : Addr} {xs : List V} (c : Calm H H') (h : SqL K H a xs) : SqL K H' a xs := by
  rcases h with (h | ⟨ob, h⟩) | h
  · exact .inl (.inl (c.ints h))
  · exact .inl (.inr ⟨ob, c _ _ (fun _ _ _ z => nomatch z) h⟩)
  · exact .inr h
/-- what a session's call gives: a new list, the next state -/
def NewSes (K : PySem.W.Frag) (H : Hp) (p : Addr) (st st' : Kvg6.State) (ns : List Int) (Q : VK) : Prop := ∀ q H', H q = none → Calm H H' →
  (∀ z ms, H z = some (.lst (ms.map V.int)) → (st ≠ none → ms ≠ []) → SesAt K (off H' z) p st') → H' q = some (.lst (ns.map V.int)) → Q (.ref q) H'
def DoesOut (K : PySem.W.Frag) (H : Hp) (p : Addr) (st : Kvg6.State) (R : Kvg6.State × Kvg6.Response) (Q : VK) (E : XK) : Prop := (R.2.code < 0 → Err K E H R.2.code) ∧ (0 ≤ R.2.code → NewSes K H p st R.1 (R.2.code :: R.2.values) Q)
/-- from a question -/
theorem QOut.does {H : Hp} {p : Addr} {st st' : Kvg6.State} {r : Kvg6.Response} {Q : VK} {E : XK} (hs : SesAt K H p st) (e : st' = st) (k : DoesOut K H p st (st', r) Q E) : QOut K H r Q E := by
  subst e
  refine ⟨k.1, fun hc q H' hq S hq' => k.2 hc q H' hq (.of S) (fun z ms hz hne => ?_) hq'⟩
  exact (Same.off S).ses (ses_off hs hz hne)
/-- from a change of the forest -/
theorem OpOut.does {H : Hp} {p f dx : Addr} {s : Kvg6.Index} {R : Kvg6.Index × Kvg6.Response} {Q : VK} {E : XK} (hp : H p = some (.ins (He.ga K "Session") dx (seF (.ref f)))) (hf : ForestAt K H f s) (k : DoesOut K H p (some s) (some R.1, R.2) Q E) : OpOut K H f R Q E := by
  obtain ⟨dxf, l, v1, v2, h1, _⟩ := hf
  have hpf : p ≠ f := ne_of hp h1 (fun z => foreign_ses.fo _ _ _ z)
  refine ⟨k.1, fun hc q H' hq B hf' hq' => k.2 hc q H' hq (B.calm h1) (fun z ms hz hne => ?_) hq'⟩
  have hzf : z ≠ f := ne_of hz h1 (fun z => nomatch z)
  have hz' := B _ _ hzf hz
  exact ⟨dx, .ref f, off_ne (B _ _ hpf hp) hz' (fun q => nomatch q), f, rfl, forest_offG hz' (foreign_ints (hne (fun q => nomatch q))) hf'⟩
end
namespace S2
section
variable {P : Program} {w : World} {K : PySem.W.Frag} {mg : Str → Option Value} {base : Heap}
/-! ### a new forest stands apart from what was there -/
def spEmpty2 (K : PySem.W.Frag) : Sp := fun vs H Q _ => vs = [] ∧ ∀ p H', H p = none → Same H H' → TreeV K H' 0 (.ref p) (.leaf []) → (∀ z o, H z = some o → TreeV K (off H' z) 0 (.ref p) (.leaf [])) → Q (.ref p) H'
theorem sc_empty_leaf : FnScope [] [] (defScope s_empty_leaf) := ⟨rfl, rfl, rfl, by decide +kernel, rfl, by decide +kernel, by decide +kernel⟩
theorem k_empty_leaf (T : Tx K mg) : Kn P w K mg base "empty_leaf" 6 [] (spEmpty2 K) := by
  have F := T.fn1 17 (x := "empty_leaf") (st := s_empty_leaf) rfl
  have sc := sc_empty_leaf
  let st : Stmt := s_empty_leaf
  let nn : List Str := []
  refine ⟨F.ok sc (fun vs H Q E h => ?_) (fun cdv A outer s H vs Q E hr h => ?_), F.binds fun _ _ _ _ _ _ us hl => match us, hl with | [], _ => rfl, F.kp, T.glo 14⟩

  · obtain ⟨rfl, _⟩ := h
    rfl
  obtain ⟨rfl, k⟩ := h
  refine ⟨_, (pss_one (ps_ret (km (k_Node_init T) hr (pa_cons pe_int (pa_cons (pe_lst pa_nil) pa_nil))))), ?_⟩
  refine ⟨Nat.zero_le _, fun e he => ?_⟩
  have S0 : Same H (upd H e (.lst [])) := Same.upd he
  refine make_node (bs := []) (Same.refl _) upd_same .nil (by decide) fun x dx bv H' hx S h1 h2 => k x H' (S0.free hx) (S0.trans S) ?_ (fun z o hz => ?_)
  · exact ⟨Nat.zero_le _, [], node_new S upd_same .nil h1 h2, .nil⟩
  · have hze : e ≠ z := (ne_of_none hz he).symm
    have hzx : x ≠ z := (ne_of_none (S0 _ _ hz) hx).symm
    refine ⟨Nat.zero_le _, [], ⟨x, dx, e, bv, rfl, off_at h1 hzx, off_at (S _ _ upd_same) hze, .nil, ?_⟩, .nil⟩
    rcases h2 with h2 | ⟨h2, _⟩
    · exact .inl h2
    · exact absurd rfl h2
/-- an empty tree stands where an instance of another kind changes -/
theorem far {G : Hp} {p : Addr} {o o' : HO} (hp : G p = some o) (F : Foreign o) {v : V} {t : Kvg6.Tree} (h : TreeV K G 0 v t) : TreeV K (upd G p o') 0 v t := by
  have h2 := tree_offG hp F h
  have S : Same (off G p) (upd G p o') := off_same.upd2 (if_pos rfl)
  exact S.tree h2
theorem foreign_new {C dx : Addr} : Foreign (.ins C dx []) := by
  refine ⟨fun _ _ _ _ z => ?_, fun _ _ _ _ _ z => ?_, fun _ _ _ z => ?_, fun _ z => (nomatch z), fun _ z => (nomatch z)⟩ <;> (injection z with _ _ z; cases z)
theorem off_upd2 {H : Hp} {z p : Addr} {o : HO} (h : p ≠ z) : off (upd H p o) z = upd (off H z) p o := by
  funext b
  by_cases d : b = p
  · rw [d]
    have e : off (upd H p o) z p = some o := off_at upd_same h
    rw [e, upd_same]
  · rw [upd_ne d]
    show (if b = z then none else upd H p o b) = (if b = z then none else H b)
    rw [upd_ne d]
def spFoI2 (K : PySem.W.Frag) : Sp := fun vs H Q _ => ∃ (p dx : Addr), vs = [.ref p] ∧ H p = some (.ins (He.ga K "Forest") dx []) ∧ ∀ H', Same (off H p) H' → ForestAt K H' p ⟨.leaf [], .leaf []⟩ → (∀ z o, z ≠ p → H z = some o → ForestAt K (off H' z) p ⟨.leaf [], .leaf []⟩) → Q .non H'
theorem sc_Forest_init : FnScope ["self"] ["self"] (defScope s_Forest_init) := ⟨rfl, rfl, rfl, by decide +kernel, rfl, by decide +kernel, by decide +kernel⟩
theorem k_Forest_init (T : Tx K mg) : KnI P w K mg base "Forest" 7 ["self"] (spFoI2 K) := by
  have F := T.fn2 44 (c := "Forest") (m := "__init__") (q := "Forest.__init__") (st := s_Forest_init) rfl
  have sc := sc_Forest_init
  let st : Stmt := s_Forest_init
  let nn : List Str := ["self"]
  refine ⟨F.ok sc (fun vs H Q E h => ?_) (fun cdv A outer s H vs Q E hr h => ?_), F.binds fun _ _ _ _ _ _ us hl => match us, hl with | [_], _ => rfl, kcl_Forest T⟩

  · obtain ⟨p, dx, rfl, _⟩ := h
    rfl
  obtain ⟨p, dx, rfl, hp, k⟩ := h
  refine ⟨_, (pss_one (ps_fld (pv 0) (pe_lst (pa_cons (kc0 (k_empty_leaf T) hr) (pa_cons (kc0 (k_empty_leaf T) hr) pa_nil))) rfl)), ?_⟩
  refine ⟨rfl, fun p1 H1 hp1 S1 t1 a1 => ⟨rfl, fun p2 H2 hp2 S2 t2 a2 => ⟨by show 2 ≤ sizeLine; decide, fun l hl => ?_⟩⟩⟩
  have Sl := Same.upd (o := .lst [.ref p1, .ref p2]) hl
  have S3 := (S1.trans S2).trans Sl
  refine ⟨_, rfl, p, _, dx, _, rfl, S3 _ _ hp, (kcl_Forest T).cl, no_Forest_roots T, by decide, ?_⟩
  have hpe : off H p p = none := if_pos rfl
  have hlp : l ≠ p := (ne_of_none ((S1.trans S2) _ _ hp) hl).symm
  have t1' := (S2.trans Sl).tree t1
  have t2' := Sl.tree t2
  have hp3 := S3 _ _ hp
  have l3 := upd_same (H := H2) (a := l) (o := .lst [.ref p1, .ref p2])
  generalize upd H2 l (.lst [.ref p1, .ref p2]) = H3 at *
  refine k _ ((off_same.trans S3).upd2 hpe) ⟨dx, l, .ref p1, .ref p2, upd_same, ?_, ⟨0, far hp3 foreign_new t1', BF.empty_good⟩, ⟨0, far hp3 foreign_new t2', BF.empty_good⟩⟩ fun z o hzp hz => ?_
  · rw [upd_ne hlp]
    exact l3
  · have u1 : TreeV K (off H3 z) 0 (.ref p1) (.leaf []) := (Same.off (S2.trans Sl)).tree (a1 z o hz)
    have u2 : TreeV K (off H3 z) 0 (.ref p2) (.leaf []) := (Same.off Sl).tree (a2 z o (S1 _ _ hz))
    have hlz : l ≠ z := (ne_of_none ((S1.trans S2) _ _ hz) hl).symm
    have hp4 : off H3 z p = some (.ins (He.ga K "Forest") dx []) := off_at hp3 hzp.symm
    rw [off_upd2 hzp.symm]
    refine ⟨dx, l, .ref p1, .ref p2, upd_same, ?_, ⟨0, far hp4 foreign_new u1, BF.empty_good⟩, ⟨0, far hp4 foreign_new u2, BF.empty_good⟩⟩
    rw [upd_ne hlp]
    exact off_at l3 hlz
/-! ### the session's defs -/
def spSeI (K : PySem.W.Frag) : Sp := fun vs H Q _ => ∃ (p dx : Addr), vs = [.ref p] ∧ H p = some (.ins (He.ga K "Session") dx []) ∧ Q .non (upd H p (.ins (He.ga K "Session") dx (seF .non)))
theorem sc_Session_init : FnScope ["self"] ["self"] (defScope s_Session_init) := ⟨rfl, rfl, rfl, by decide +kernel, rfl, by decide +kernel, by decide +kernel⟩
theorem k_Session_init (T : Tx K mg) : KnI P w K mg base "Session" 1 ["self"] (spSeI K) := by
  have F := T.fn2 92 (c := "Session") (m := "__init__") (q := "Session.__init__") (st := s_Session_init) rfl
  have sc := sc_Session_init
  let st : Stmt := s_Session_init
  let nn : List Str := ["self"]
  refine ⟨F.ok sc (fun vs H Q E h => ?_) (fun cdv A outer s H vs Q E hr h => ?_), F.binds fun _ _ _ _ _ _ us hl => match us, hl with | [_], _ => rfl, kcl_Session T⟩

  · obtain ⟨p, dx, rfl, _⟩ := h
    rfl
  obtain ⟨p, dx, rfl, hp, k⟩ := h
  refine ⟨_, (pss_one (ps_fld (pv 0) pe_non rfl)), ?_⟩
  exact ⟨_, rfl, p, _, dx, [], rfl, hp, (kcl_Session T).cl, no_Session_forest T, by decide, k⟩
def spDoes (K : PySem.W.Frag) : Sp := fun vs H Q E => ∃ (p n l : Addr) (op : Int) (ns : List Int) (rs : List (List Int)) (o : Kvg6.Operation) (st : Kvg6.State), vs = [.ref p, .int op, .ref n, .ref l] ∧ SesAt K H p st ∧ H n = some (.lst (ns.map V.int)) ∧ RowsL H l rs ∧ Lawful op ns rs o ∧ DoesOut K H p st (Kvg6.execute st o) Q E
theorem sc_Session_does : FnScope ["self", "operation", "numbers", "lists"] ["self", "operation", "numbers", "lists"] (defScope s_Session_does) := ⟨rfl, rfl, rfl, by decide +kernel, rfl, by decide +kernel, by decide +kernel⟩
theorem k_Session_does (T : Tx K mg) : KnMX P w K mg base "Session" "does" 21 ["self", "operation", "numbers", "lists"] (spDoes K) := by
  have F := T.fn2 93 (c := "Session") (m := "does") (q := "Session.does") (st := s_Session_does) rfl
  have sc := sc_Session_does
  obtain ⟨tCREATE, gCREATE⟩ := T.int 119 (x := "CREATE") rfl
  obtain ⟨tNO_INSTANCE, gNO_INSTANCE⟩ := T.int 104 (x := "NO_INSTANCE") rfl
  let st : Stmt := s_Session_does
  let nn : List Str := ["self", "operation", "numbers", "lists"]
  refine ⟨F.okX sc (fun vs H Q E h => ?_) (fun cdv A outer s H vs Q E hr h => ?_), F.binds fun _ _ _ _ _ _ us hl => match us, hl with | [_, _, _, _], _ => rfl, (kcl_Session T).cl, meth_Session_does T⟩

  · obtain ⟨p, n, l, op, ns, rs, o, st, rfl, _⟩ := h
    rfl
  obtain ⟨p, n, l, op, ns, rs, o, st, rfl, hs, hn, hr0, hL, k⟩ := h
  refine ⟨_, (pss_cons (ps_if (pt_cmpR op_eq (pv 1) (pe_glob (v := .int (0)) rfl gCREATE ⟨_, rfl⟩) (nomark _)) (pss_cons (ps_fld (pv 0) (km0 (k_Forest_init T) hr) rfl)
      (pss_one (ps_ret (pe_lst (pa_cons pe_int pa_nil))))) pss_nil)
      (pss_cons (ps_expr (kcX (k_need T) hr (pa_cons (pe_cmpR op_notN (pe_fld (pv 0) rfl) pe_non (nomark _)) (pa_cons (pe_glob (v := .int (-11)) rfl gNO_INSTANCE ⟨_, rfl⟩) pa_nil)) (passes_call (takes_of rfl rfl rfl rfl) fun _ _ _ _ h => h)))
      (pss_cons (ps_if (pt_cmpR op_le (pv 1) pe_int (nomark _)) (pss_one (ps_ret (kcX (k_changed T) hr (pa_cons (pe_fld (pv 0) rfl) (pa_cons (pv 1) (pa_cons (pv 2) (pa_cons (pv 3) pa_nil)))) (passes_call (takes_of rfl rfl rfl rfl) fun _ _ _ _ h => h)))) pss_nil)
      (pss_cons (ps_if (pt_cmpR op_le (pv 1) pe_int (nomark _)) (pss_one (ps_ret (kcX (k_looked_up T) hr (pa_cons (pe_fld (pv 0) rfl) (pa_cons (pv 1) (pa_cons (pv 2) (pa_cons (pv 3) pa_nil)))) (passes_call (takes_of rfl rfl rfl rfl) fun _ _ _ _ h => h)))) pss_nil)
      (pss_cons (ps_if (pt_cmpR op_le (pv 1) pe_int (nomark _)) (pss_one (ps_ret (kcX (k_searched T) hr (pa_cons (pe_fld (pv 0) rfl) (pa_cons (pv 1) (pa_cons (pv 2) pa_nil))) (passes_call (takes_of rfl rfl rfl rfl) fun _ _ _ _ h => h)))) pss_nil)
      (pss_one (ps_ret (kcX (k_measured T) hr (pa_cons (pe_fld (pv 0) rfl) (pa_cons (pv 1) (pa_cons (pv 2) (pa_cons (pv 3) pa_nil)))) (passes_call (takes_of rfl rfl rfl rfl) fun _ _ _ _ h => h))))))))), ?_⟩
  have hop := hL.op
  have hss := hs
  obtain ⟨dx, v, hp, hv⟩ := hss
  by_cases c0 : op = 0
  · subst c0
    cases hL
    have hex : Kvg6.execute st .create = (some ⟨.leaf [], .leaf []⟩, .number 0) := by cases st <;> rfl
    rw [hex] at k
    refine ⟨_, rfl, rfl, _, rfl, iteEq ?_⟩
    refine fun x dxx nx ndx nex => ⟨x, dxx, rfl, upd_same, fun H1 S1 f1 a1 => ⟨rfl, ?_⟩⟩
    have S01 : Same H H1 := fun b o e => by
      have hbx := ne_of_none e nx
      have hbd := ne_of_none e ndx
      exact S1 b o (off_at (by rw [upd_ne hbx, upd_ne hbd]; exact e) hbx)
    have hp1 := S01 _ _ hp
    refine ⟨_, rfl, p, _, dx, _, rfl, hp1, (kcl_Session T).cl, no_Session_forest T, by show 1 < 1000; decide, by show 1 ≤ sizeLine; decide, fun q hq => ?_⟩
    have hqp : q ≠ p := fun z => by
      rw [z, upd_same] at hq
      cases hq
    have hq1 : H1 q = none := by rw [upd_ne hqp] at hq; exact hq
    refine k.2 (by decide) q _ (S01.free hq1) (fun b o n e => ?_) (fun z ms hz hne => ?_) upd_same
    · have hbp : b ≠ p := fun z => by
        rw [z, hp] at e
        exact n _ _ _ (Option.some.inj e).symm
      have hbq : b ≠ q := ne_of_none (S01 _ _ e) hq1
      rw [upd_ne hbq, upd_ne hbp]
      exact S01 _ _ e
    · have hzp : z ≠ p := ne_of hz hp (fun z => nomatch z)
      have hzq : z ≠ q := ne_of_none (S01 _ _ hz) hq1
      have hzx : z ≠ x := ne_of_none hz nx
      have hzd : z ≠ dxx := ne_of_none hz ndx
      have hfz := a1 z _ hzx (by rw [upd_ne hzx, upd_ne hzd]; exact hz)
      have hpz : off H1 z p = some (.ins (He.ga K "Session") dx (seF v)) := off_at hp1 hzp.symm
      have hqz : off H1 z q = none := by
        cases e : off H1 z q with
        | none => rfl
        | some u => rw [off_same _ _ e] at hq1; cases hq1
      rw [off_upd2 hzq.symm, off_upd2 hzp.symm]
      refine ⟨dx, .ref x, ?_, x, rfl, ?_⟩
      · rw [upd_ne hqp.symm, upd_same]
        exact congrArg (fun fs => some (HO.ins _ dx fs)) put_here
      · have S : Same (off (off H1 z) p) (upd (upd (off H1 z) p (.ins (He.ga K "Session") dx (putF "forest" (.ref x) (seF v)))) q (.lst [.int 0])) := (off_same.upd2 (if_pos rfl)).upd3 (by rw [upd_ne hqp]; exact hqz)
        exact S.forest (forest_offG hpz foreign_ses hfz)
  refine ⟨_, rfl, rfl, _, rfl, iteNe c0 ?_⟩
  refine ⟨_, rfl, p, _, dx, _, _, rfl, hp, (kcl_Session T).cl, no_Session_forest T, seF_forest, rfl, _, _, rfl, fun c => ?_, fun c => ?_⟩
  rotate_left
  · cases st with
    | some s =>
      obtain ⟨f, rfl, _⟩ := hv
      cases c
    | none =>
      have hex : Kvg6.execute none o = (none, .error (-11)) := by cases hL <;> first | exact absurd rfl c0 | rfl
      rw [hex] at k
      exact k.1 (by decide)
  cases st with
  | none =>
    rw [show v = .non from hv] at c
    cases c
  | some s =>
    obtain ⟨f, rfl, hf⟩ := hv
    have hex : Kvg6.execute (some s) o = (some (s.run o).1, (s.run o).2) := rfl
    rw [hex] at k
    refine ⟨_, rfl, _, _, rfl, rfl, _, rfl, ?_⟩
    by_cases c6 : op ≤ 6
    · rw [decide_eq_true c6]
      refine iteT ⟨_, rfl, p, _, dx, _, _, rfl, hp, (kcl_Session T).cl, no_Session_forest T, seF_forest, _, rfl, _, rfl, _, rfl, f, n, l, op, ns, rs, o, s, rfl, hf, hn, hr0, hL, by omega, c6, OpOut.does hp hf k⟩
    rw [decide_eq_false c6]
    refine iteF ⟨_, rfl, _, _, rfl, rfl, _, rfl, ?_⟩
    have kq : QOut K H (s.run o).2 Q E := QOut.does hs (congrArg some (BF.run_query hL (by omega) s)) k
    by_cases c12 : op ≤ 12
    · rw [decide_eq_true c12]
      refine iteT ⟨_, rfl, p, _, dx, _, _, rfl, hp, (kcl_Session T).cl, no_Session_forest T, seF_forest, _, rfl, _, rfl, _, rfl, f, n, l, op, ns, rs, o, s, rfl, hf, hn, hr0, hL, by omega, c12, kq⟩
    rw [decide_eq_false c12]
    refine iteF ⟨_, rfl, _, _, rfl, rfl, _, rfl, ?_⟩
    by_cases c18 : op ≤ 18
    · rw [decide_eq_true c18]
      refine iteT ⟨_, rfl, p, _, dx, _, _, rfl, hp, (kcl_Session T).cl, no_Session_forest T, seF_forest, _, rfl, _, rfl, f, n, op, ns, rs, o, s, rfl, hf, hn, hL, by omega, c18, kq⟩
    rw [decide_eq_false c18]
    refine iteF ⟨_, rfl, p, _, dx, _, _, rfl, hp, (kcl_Session T).cl, no_Session_forest T, seF_forest, _, rfl, _, rfl, _, rfl, f, n, l, op, ns, rs, o, s, rfl, hf, hn, hr0, hL, by omega, by omega, kq⟩
end
end S2
end BFW
namespace BFW
open PySem PySem.Spec PyProof.Rows L2 BFH
open Kvg6 (Box Item)
open BF (BoxOk ItOk Lawful)
namespace S2
section
variable {P : Program} {w : World} {K : PySem.W.Frag} {mg : Str → Option Value} {base : Heap}
def spAnsw (K : PySem.W.Frag) : Sp := fun vs H Q _ => ∃ (p n l : Addr) (op : Int) (ns : List Int) (rs : List (List Int)) (o : Kvg6.Operation) (st : Kvg6.State), vs = [.ref p, .int op, .ref n, .ref l] ∧ SesAt K H p st ∧ H n = some (.lst (ns.map V.int)) ∧ RowsL H l rs ∧ Lawful op ns rs o ∧
  NewSes K H p st (Kvg6.execute st o).1 ((Kvg6.execute st o).2.code :: (Kvg6.execute st o).2.values) Q
theorem sc_Session_answer : FnScope ["self", "operation", "numbers", "lists", "e"] ["self", "operation", "numbers", "lists"] (defScope s_Session_answer) := ⟨rfl, rfl, rfl, by decide +kernel, rfl, by decide +kernel, by decide +kernel⟩
theorem k_Session_answer (T : Tx K mg) : KnM P w K mg base "Session" "answer" 22 ["self", "operation", "numbers", "lists"] (spAnsw K) := by
  have F := T.fn2 94 (c := "Session") (m := "answer") (q := "Session.answer") (st := s_Session_answer) rfl
  have sc := sc_Session_answer
  let st : Stmt := s_Session_answer
  let nn : List Str := ["self", "operation", "numbers", "lists", "e"]
  refine ⟨F.ok sc (fun vs H Q E h => ?_) (fun cdv A outer s H vs Q E hr h => ?_), F.binds fun _ _ _ _ _ _ us hl => match us, hl with | [_, _, _, _], _ => rfl, (kcl_Session T).cl, meth_Session_answer T⟩

  · obtain ⟨p, n, l, op, ns, rs, o, st, rfl, _⟩ := h
    rfl
  obtain ⟨p, n, l, op, ns, rs, o, st, rfl, hs, hn, hr0, hL, k⟩ := h
  have DK := k_Session_does (P := P) (w := w) (base := base) T
  refine ⟨_, pss_one (ps_try_as (i := 4) (tb := fun W => tRet (tMethS (He.ga K "Session") "does" (spDoes K) (WE W) (tVar 0) (tCons (tVar 1) (tCons (tVar 2) (tCons (tVar 3) tNil))))) (ts := fun a cls d => tRet (tLst (tCons (tXf a cls d (He.ga K "Refused") "code" (tVar 4)) tNil))) (Wout := fun _ _ _ _ => False) rfl rfl sc.nd rfl rfl ⟨rfl, by decide, .inl (T.glo 85)⟩ takes0
    (fun W pn xe tk _ => pss_one (ps_ret (by exact (pe_methS (pv 0) DK.cl DK.me DK.ok (hr.mono (by decide)) DK.bd (fun σ => passAt tk σ) (by exact (pa_cons (pv 1) (pa_cons (pv 2) (pa_cons (pv 3) pa_nil))))))))
    (fun a oe cls d pn hz hf => pss_one (ps_ret (by exact (pe_lst (pa_cons (pe_xf (refT T).xf (refT T).code hz hf (pv 4)) pa_nil)))))), ?_⟩
  have hss := hs
  obtain ⟨dx, v, hp, hv⟩ := hss
  refine ⟨_, rfl, p, dx, _, rfl, hp, seF_none (by decide +kernel), _, rfl, _, rfl, _, rfl, p, n, l, op, ns, rs, o, st, rfl, hs, hn, hr0, hL, fun hc H1 d S1 hd => ?_, fun hc => k⟩
  obtain ⟨e1, e2⟩ := BF.exec_neg hL st hc
  rw [e1, e2] at k
  refine ⟨true, (refT T).exm, fun _ a ha => ?_, fun q => Bool.noConfusion q⟩
  refine ⟨_, rfl, rfl, rfl, d, _, _, rfl, hd, lk_here, by show 1 ≤ sizeLine; decide, fun q hq => ?_⟩
  have S2 := S1.trans (Same.upd (o := .lst [.int (Kvg6.execute st o).2.code]) hq)
  exact k q _ (S1.free hq) (.of S2) (fun z ms hz hne => (Same.off S2).ses (ses_off hs hz hne)) upd_same
/-! ### the lists of a call -/
def spListsAt (K : PySem.W.Frag) : Sp := fun vs H Q _ => ∃ (a : Addr) (L : List Int) (p k q : Nat) (xs : List (List Int)), vs = [.ref a, .int p, .int k] ∧ SqL K H a (L.map V.int) ∧ p ≤ L.length ∧ L.length ≤ 100000 ∧ k ≤ 2 ∧ q ≤ L.length ∧ PyFlat.rows k (L.drop p) = some (xs, L.drop q) ∧
  ∀ t l H', H t = none → Same H H' → RowsL H' l xs → H' t = some (.tup [.ref l, .int q]) → Q (.ref t) H'
theorem sc_lists_at : FnScope ["calls", "position", "many", "found", "turn", "begin"] ["calls", "position", "many"] (defScope s_lists_at) := ⟨rfl, rfl, rfl, by decide +kernel, rfl, by decide +kernel, by decide +kernel⟩
theorem k_lists_at (T : Tx K mg) : Kn P w K mg base "lists_at" 1 ["calls", "position", "many"] (spListsAt K) := by
  have F := T.fn1 99 (x := "lists_at") (st := s_lists_at) rfl
  have sc := sc_lists_at
  let st : Stmt := s_lists_at
  let nn : List Str := ["calls", "position", "many", "found", "turn", "begin"]
  refine ⟨F.ok sc (fun vs H Q E h => ?_) (fun cdv A outer s H vs Q E hr h => ?_), F.binds fun _ _ _ _ _ _ us hl => match us, hl with | [_, _, _], _ => rfl, F.kp, T.glo 83⟩

  · obtain ⟨a, L, p, k, q, xs, rfl, _⟩ := h
    rfl
  obtain ⟨a, L, p, k, q, xs, rfl, ha, hpL, hLs, hk2, hqL, hr0, ret⟩ := h
  refine ⟨_, (pss_cons (ps_set (i := 3) sc.nd rfl (Or.inl rfl) (pe_lst pa_nil))
      (pss_cons (ps_for PassesOwn.never rfl (pi_range1 rfl (T.free 95) (pa_cons (pv 2) pa_nil)) (pg_name (i := 4) sc.nd rfl (Or.inl rfl)) (pss_cons (ps_set (i := 5) sc.nd rfl (Or.inl rfl) (pe_op op_add (pv 1) pe_int))
      (pss_cons (ps_set (i := 1) sc.nd rfl (Or.inl rfl) (pe_op op_add (pv 5) (pe_ix ix_list (pv 0) (pv 1) (fun _ _ => rfl))))
      (pss_one (ps_expr (pe_bm PySem.F.plainAttrs_list PySem.F.slot_list_append PySem.F.type_list_append mt_append (pv 3) (pa_cons (pe_slice sl_list (pv 0) (po_some (pv 5)) (po_some (pv 1))) pa_nil)))))))
      (pss_one (ps_ret (pe_tup (pa_cons (pv 3) (pa_cons (pv 1) pa_nil))))))), ?_⟩
  refine ⟨Nat.zero_le _, fun fd hf => ?_⟩
  have S0 := Same.upd (o := .lst []) hf
  obtain ⟨_, _, _, _, hxl⟩ := BF.rows_at hpL hr0
  refine ⟨_, rfl, k, rfl, by omega, by omega, ?_⟩
  refine for_range (lo := 0) (n := k) (fun i σ H1 => ∃ (j : Nat) (fo : List V) (o4 o5 : Option V), σ = [some (.ref a), some (.int (j : Int)), some (.int (k : Int)), some (.ref fd), o4, o5] ∧ j ≤ L.length ∧ PyFlat.rows (k - i) (L.drop j) = some (xs.drop i, L.drop q) ∧ Same H H1 ∧ H1 fd = some (.lst fo) ∧ Paired (IntsL (off H1 fd)) fo (xs.take i)) ?_ ?_ ?_
  · exact ⟨p, [], _, _, rfl, hpL, hr0, S0, upd_same, by rw [List.take_zero]; exact .nil⟩
  · rintro i σ H1 hi ⟨j, fo, o4, o5, rfl, hj, hr1, S, hfo, hp⟩
    obtain ⟨x, s1, ys, e1, e2, e3⟩ := BF.rows_succ (k := k - i - 1) (by rw [show k - i - 1 + 1 = k - i by omega]; exact hr1)
    obtain ⟨n, hn, hnl, ex, es⟩ := BF.row_at e1
    subst ex es
    refine ⟨_, rfl, _, _, rfl, rfl, ?_⟩
    refine ⟨_, rfl, _, rfl, _, rfl, a, _, _, _, rfl, rfl, S.seq ha, at_of (j := j) rfl (by rw [List.getElem?_map, hn]; rfl), _, _, rfl, rfl, ?_⟩
    refine ⟨_, rfl, .inl ⟨rfl, _, .inl (.inl hfo)⟩, _, rfl, _, rfl, _, rfl, _, rfl, _, rfl, a, _, rfl, S.seq ha, fun sl hsl => ?_⟩
    rw [cut_mid (i := j + 1) (j := j + 1 + n) (by omega) (by omega) (by rw [List.length_map]; omega) (by omega)]
    have ec : List.take (j + 1 + n - (j + 1)) (List.drop (j + 1) (L.map V.int)) = ((L.drop (j + 1)).take n).map V.int := by
      rw [show j + 1 + n - (j + 1) = n by omega, ← List.map_drop, ← List.map_take]
    rw [ec]
    have S1 := Same.upd (o := .lst (((L.drop (j + 1)).take n).map V.int)) hsl
    have hfo1 := S1 _ _ hfo
    have hslf : sl ≠ fd := (ne_of_none hfo hsl).symm
    have hxi : xs[i]? = some ((L.drop (j + 1)).take n) := by
      have := congrArg (fun l => l[0]?) e3
      simp only [List.getElem?_drop, Nat.add_zero, List.getElem?_cons_zero] at this
      exact this
    have hfl := hp.len
    rw [List.length_take] at hfl
    refine ⟨fd, fo, _, rfl, rfl, hfo1, Nat.lt_of_le_of_lt (show fo.length ≤ 2 by omega) (by decide), ?_⟩
    refine ⟨j + 1 + n, fo ++ [.ref sl], some (.int (0 + (i : Int))), some (.int ((j : Int) + 1)), ?_, hnl, ?_, (S.trans S1).upd2 hf, upd_same, ?_⟩
    · rw [show ((j + 1 + n : Nat) : Int) = (j : Int) + 1 + n by omega]
      rfl
    · have : xs.drop (i + 1) = ys := by
        have := congrArg (List.drop 1) e3
        rw [List.drop_drop] at this
        exact this
      rw [this, show k - (i + 1) = k - i - 1 by omega]
      exact e2
    · rw [off_upd, List.take_add_one, hxi]
      exact Paired.app (Paired.impl (fun _ _ h => (Same.off S1).intsL h) hp) (Paired.one ⟨sl, rfl, off_at upd_same hslf⟩)
  · rintro σ H1 ⟨j, fo, o4, o5, rfl, hj, hr1, S, hfo, hp⟩
    rw [Nat.sub_self] at hr1
    injection hr1 with hr1
    injection hr1 with h1 h2
    have hjq : j = q := by
      have := congrArg List.length h2
      rw [List.length_drop, List.length_drop] at this
      omega
    subst hjq
    rw [List.take_of_length_le (by omega)] at hp
    refine ⟨_, rfl, _, rfl, by show 2 ≤ sizeLine; decide, fun t ht => ?_⟩
    have S1 := Same.upd (o := .tup [.ref fd, .int (j : Int)]) ht
    exact ret t fd _ (S.free ht) (S.trans S1) ⟨fo, S1 _ _ hfo, Paired.impl (fun _ _ h => (off_same.trans S1).intsL h) hp⟩ upd_same
end
end S2
end BFW
namespace BFW
open PySem PySem.Spec PyProof.Rows L2 BFH
open Kvg6 (Box Item)
open BF (BoxOk ItOk Lawful)
namespace S2
/-! ### the table of the calls' shapes -/
theorem sh_step {c : Prop} [Decidable c] {n k n' k' : Nat} {r : Option (Nat × Nat)} (h : (if c then some (n', k') else r) = some (n, k)) : (c ∧ n' = n ∧ k' = k) ∨ r = some (n, k) := by
  by_cases d : c
  · rw [if_pos d] at h
    injection h with h
    injection h with h1 h2
    exact .inl ⟨d, h1, h2⟩
  · rw [if_neg d] at h
    exact .inr h
theorem shape_at {p : Int} {n k : Nat} (h : PyKvg6.shape p = some (n, k)) : ∃ j : Nat, p = (j : Int) ∧ shp[j]? = some ((n : Int), (k : Int)) ∧ n ≤ 4 ∧ k ≤ 2 := by
  unfold PyKvg6.shape at h
  rcases sh_step h with ⟨rfl, rfl, rfl⟩ | h
  · exact ⟨0, rfl, rfl, by decide, by decide⟩
  rcases sh_step h with ⟨rfl, rfl, rfl⟩ | h
  · exact ⟨1, rfl, rfl, by decide, by decide⟩
  rcases sh_step h with ⟨rfl, rfl, rfl⟩ | h
  · exact ⟨2, rfl, rfl, by decide, by decide⟩
  rcases sh_step h with ⟨rfl, rfl, rfl⟩ | h
  · exact ⟨3, rfl, rfl, by decide, by decide⟩
  rcases sh_step h with ⟨rfl, rfl, rfl⟩ | h
  · exact ⟨4, rfl, rfl, by decide, by decide⟩
  rcases sh_step h with ⟨rfl, rfl, rfl⟩ | h
  · exact ⟨5, rfl, rfl, by decide, by decide⟩
  rcases sh_step h with ⟨rfl, rfl, rfl⟩ | h
  · exact ⟨6, rfl, rfl, by decide, by decide⟩
  rcases sh_step h with ⟨rfl, rfl, rfl⟩ | h
  · exact ⟨7, rfl, rfl, by decide, by decide⟩
  rcases sh_step h with ⟨rfl, rfl, rfl⟩ | h
  · exact ⟨8, rfl, rfl, by decide, by decide⟩
  rcases sh_step h with ⟨rfl, rfl, rfl⟩ | h
  · exact ⟨9, rfl, rfl, by decide, by decide⟩
  rcases sh_step h with ⟨rfl, rfl, rfl⟩ | h
  · exact ⟨10, rfl, rfl, by decide, by decide⟩
  rcases sh_step h with ⟨rfl, rfl, rfl⟩ | h
  · exact ⟨11, rfl, rfl, by decide, by decide⟩
  rcases sh_step h with ⟨rfl, rfl, rfl⟩ | h
  · exact ⟨12, rfl, rfl, by decide, by decide⟩
  rcases sh_step h with ⟨rfl, rfl, rfl⟩ | h
  · exact ⟨13, rfl, rfl, by decide, by decide⟩
  rcases sh_step h with ⟨rfl, rfl, rfl⟩ | h
  · exact ⟨14, rfl, rfl, by decide, by decide⟩
  rcases sh_step h with ⟨rfl, rfl, rfl⟩ | h
  · exact ⟨15, rfl, rfl, by decide, by decide⟩
  rcases sh_step h with ⟨rfl, rfl, rfl⟩ | h
  · exact ⟨16, rfl, rfl, by decide, by decide⟩
  rcases sh_step h with ⟨rfl, rfl, rfl⟩ | h
  · exact ⟨17, rfl, rfl, by decide, by decide⟩
  rcases sh_step h with ⟨rfl, rfl, rfl⟩ | h
  · exact ⟨18, rfl, rfl, by decide, by decide⟩
  rcases sh_step h with ⟨rfl, rfl, rfl⟩ | h
  · exact ⟨19, rfl, rfl, by decide, by decide⟩
  rcases sh_step h with ⟨rfl, rfl, rfl⟩ | h
  · exact ⟨20, rfl, rfl, by decide, by decide⟩
  rcases sh_step h with ⟨rfl, rfl, rfl⟩ | h
  · exact ⟨21, rfl, rfl, by decide, by decide⟩
  rcases sh_step h with ⟨rfl, rfl, rfl⟩ | h
  · exact ⟨22, rfl, rfl, by decide, by decide⟩
  rcases sh_step h with ⟨rfl, rfl, rfl⟩ | h
  · exact ⟨23, rfl, rfl, by decide, by decide⟩
  rcases sh_step h with ⟨rfl, rfl, rfl⟩ | h
  · exact ⟨24, rfl, rfl, by decide, by decide⟩
  rcases sh_step h with ⟨rfl, rfl, rfl⟩ | h
  · exact ⟨25, rfl, rfl, by decide, by decide⟩
  cases h
section
variable {K : PySem.W.Frag}
theorem two_ok {v : Value} {p : Int × Int} (h : twoB K v p = true) : ∃ r, v = .ref r ∧ ∀ H : Hp, SqT K H r [.int p.1, .int p.2] := by
  unfold twoB at h
  split at h
  · rename_i a
    split at h
    · rename_i c od its n sl hl
      rw [Bool.and_eq_true, decide_eq_true_eq] at h
      obtain ⟨rfl, h⟩ := h
      split at h
      · rename_i i t j u hi
        rw [Bool.and_eq_true, decide_eq_true_eq, decide_eq_true_eq] at h
        obtain ⟨rfl, rfl⟩ := h
        refine ⟨a, rfl, fun H => .inr ⟨_, its, n, hl, rfl, rfl, ?_, ?_⟩⟩
        · rw [← Array.length_toList, hi]
          show 2 ≤ sizeLine
          decide
        · rw [hi]
          exact .cons ⟨t, rfl⟩ (.cons ⟨u, rfl⟩ .nil)
      · cases h
    · cases h
  · cases h
theorem all_ok : ∀ {l : List Value} {m : List (Int × Int)}, allB (twoB K) l m = true → ∃ xs : List V, Vals xs l ∧ l.length = m.length ∧ Paired (fun v p => ∃ r, v = .ref r ∧ ∀ H : Hp, SqT K H r [.int p.1, .int p.2]) xs m
  | [], [], _ => ⟨[], .nil, rfl, .nil⟩
  | v :: l, p :: m, h => by
    have h : (twoB K v p && allB (twoB K) l m) = true := h
    rw [Bool.and_eq_true] at h
    obtain ⟨r, rfl, hr⟩ := two_ok h.1
    obtain ⟨xs, h1, h2, h3⟩ := all_ok h.2
    exact ⟨.ref r :: xs, .cons rfl h1, congrArg (· + 1) h2, .cons ⟨r, rfl, hr⟩ h3⟩
  | [], _ :: _, h => by cases h
  | _ :: _, [], h => by cases h
theorem shapes_ok (h : shapesB K = true) : ∃ xs : List V, (∀ H : Hp, SqT K H (He.ga K "SHAPES") xs) ∧ Paired (fun v p => ∃ r, v = .ref r ∧ ∀ H : Hp, SqT K H r [.int p.1, .int p.2]) xs shp := by
  unfold shapesB at h
  split at h
  · rename_i c od its n sl hl
    rw [Bool.and_eq_true, decide_eq_true_eq] at h
    obtain ⟨rfl, h⟩ := h
    obtain ⟨xs, h1, h2, h3⟩ := all_ok h
    refine ⟨xs, fun H => .inr ⟨_, its, n, hl, rfl, rfl, ?_, h1⟩, h3⟩
    rw [← Array.length_toList, h2]
    show 26 ≤ sizeLine
    decide
  · cases h
end
theorem Calm.off {H H' : Hp} {D : Addr} (c : Calm H H') : Calm (BFW.off H D) (BFW.off H' D) := fun b o n e => by
  have hb : b ≠ D := fun z => by
    rw [z] at e
    have : BFW.off H D D = none := if_pos rfl
    rw [this] at e
    cases e
  exact off_at (c b o n (off_same _ _ e)) hb
section
variable {P : Program} {w : World} {K : PySem.W.Frag} {mg : Str → Option Value} {base : Heap}
def spAnswers (K : PySem.W.Frag) : Sp := fun vs H Q _ => ∃ (a : Addr) (L : List Int), vs = [.ref a] ∧ SqL K H a (L.map V.int) ∧ L.length ≤ 30000 ∧ PyKvg6.answers_asked L = true ∧
  ∀ r H', H' r = some (.lst ((PyKvg6.answers L).map V.int)) → Q (.ref r) H'
/-- ahead of a call -/
structure Ahead (K : PySem.W.Frag) (a x fd : Addr) (L : List Int) (H1 : Hp) (pos : Nat) (out : List Int) (st : Kvg6.State) (f : Nat) (cs : List (List (List Int))) : Prop where
  le : pos ≤ L.length
  calls : PyFlat.calls PyKvg6.shape f (L.drop pos) = some cs
  asked : ∀ c ∈ cs, Kvg6Neutral.asked1 c = true
  eq : out ++ BF.tailOf st cs = PyKvg6.answers L
  arg : SqL K (off H1 fd) a (L.map V.int)
  found : H1 fd = some (.lst (out.map V.int))
  ses : SesAt K (off H1 fd) x st
  ne : st ≠ none → out ≠ []
/-- .. with the slots; m: how much is left -/
def Turn (K : PySem.W.Frag) (a x fd : Addr) (L : List Int) : Nat → L2.St → Hp → Prop := fun m σ H1 => ∃ (pos : Nat) (out : List Int) (st : Kvg6.State) (f : Nat) (cs : List (List (List Int))) (o4 o5 o6 o7 o8 o9 o10 : Option V),
  σ = [some (.ref a), some (.ref x), some (.ref fd), some (.int (pos : Int)), o4, o5, o6, o7, o8, o9, o10] ∧ m = L.length - pos ∧ Ahead K a x fd L H1 pos out st f cs
theorem ahead_first {H : Hp} {a x dx fd : Addr} {L : List Int} {cs : List (List (List Int))} (ha : SqL K H a (L.map V.int)) (nx : H x = none) (ndx : H dx = none)
    (hfd : upd (upd (upd H dx (.own x)) x (.ins (He.ga K "Session") dx [])) x (.ins (He.ga K "Session") dx (seF .non)) fd = none) (h1 : PyFlat.calls PyKvg6.shape L.length L = some cs) (h2 : ∀ c ∈ cs, Kvg6Neutral.asked1 c = true) (h3 : PyKvg6.answers L = BF.tailOf none cs) :
    Ahead K a x fd L (upd (upd (upd (upd H dx (.own x)) x (.ins (He.ga K "Session") dx [])) x (.ins (He.ga K "Session") dx (seF .non))) fd (.lst [])) 0 [] none L.length cs := by
  have S2 : Same H (upd (upd (upd H dx (.own x)) x (.ins (He.ga K "Session") dx [])) x (.ins (He.ga K "Session") dx (seF .non))) := ((Same.upd ndx).upd2 nx).upd2 nx
  have hx2 := upd_same (H := upd (upd H dx (.own x)) x (.ins (He.ga K "Session") dx [])) (a := x) (o := .ins (He.ga K "Session") dx (seF .non))
  generalize upd (upd (upd H dx (.own x)) x (.ins (He.ga K "Session") dx [])) x (.ins (He.ga K "Session") dx (seF .non)) = H2 at *
  have hxf : x ≠ fd := ne_of_none hx2 hfd
  refine ⟨Nat.zero_le _, h1, h2, h3.symm, ?_, upd_same, ⟨dx, .non, ?_, rfl⟩, fun z => absurd rfl z⟩
  · rw [off_upd]
    exact (S2.off0 (S2.free hfd)).seq ha
  · rw [off_upd]
    exact off_at hx2 hxf
theorem sc_answers : FnScope ["calls", "session", "found", "position", "operation", "whole", "many", "behind", "lists", "end", "answer"] ["calls"] (defScope s_answers) := ⟨rfl, rfl, rfl, by decide +kernel, rfl, by decide +kernel, by decide +kernel⟩
theorem k_answers (T : Tx K mg) : Kn P w K mg base "answers" 23 ["calls"] (spAnswers K) := by
  have F := T.fn1 100 (x := "answers") (st := s_answers) rfl
  have sc := sc_answers
  let st : Stmt := s_answers
  let nn : List Str := ["calls", "session", "found", "position", "operation", "whole", "many", "behind", "lists", "end", "answer"]
  refine ⟨F.ok sc (fun vs H Q E h => ?_) (fun cdv A outer s H vs Q E hr h => ?_), F.binds fun _ _ _ _ _ _ us hl => match us, hl with | [_], _ => rfl, F.kp, T.glo 84⟩

  · obtain ⟨a, L, rfl, _⟩ := h
    rfl
  obtain ⟨a, L, rfl, ha, hL30, hask, ret⟩ := h
  refine ⟨_, (pss_cons (ps_par (i := 1) (j := 2) rfl sc.nd rfl rfl (by decide) rfl rfl (pa_cons (km0 (k_Session_init T) hr) (pa_cons (pe_lst pa_nil) pa_nil)) (by rfl))
      (pss_cons (ps_set (i := 3) sc.nd rfl (Or.inl rfl) pe_int)
      (pss_cons (ps_while PassesOwn.never (pt_cmpR op_lt (pv 3) (pe_callB call_len_seq (by rfl) (T.free 91) PySem.boot_len (pa_cons (pv 0) pa_nil)) (nomark _)) (pss_cons (ps_set (i := 4) sc.nd rfl (Or.inl rfl) (pe_ix ix_list (pv 0) (pv 3) (fun _ _ => rfl)))
      (pss_cons (ps_asg (pe_ix ix_tup (pe_glob (v := .ref (He.ga K "SHAPES")) rfl (T.glo 90) rfl) (pv 4) (fun _ _ => rfl)) (pg_tup rfl (pgs_cons (pg_name (i := 5) sc.nd rfl (Or.inl rfl)) (pgs_cons (pg_name (i := 6) sc.nd rfl (Or.inl rfl)) pgs_nil))))
      (pss_cons (ps_set (i := 7) sc.nd rfl (Or.inl rfl) (pe_op op_add (pe_op op_add (pv 3) pe_int) (pv 5)))
      (pss_cons (ps_asg (kc (k_lists_at T) hr (pa_cons (pv 0) (pa_cons (pv 7) (pa_cons (pv 6) pa_nil)))) (pg_tup rfl (pgs_cons (pg_name (i := 8) sc.nd rfl (Or.inl rfl)) (pgs_cons (pg_name (i := 9) sc.nd rfl (Or.inl rfl)) pgs_nil))))
      (pss_cons (ps_set (i := 10) sc.nd rfl (Or.inl rfl) (kmt (k_Session_answer T) (pv 1) hr (pa_cons (pv 4) (pa_cons (pe_slice sl_list (pv 0) (po_some (pe_op op_add (pv 3) pe_int)) (po_some (pv 7))) (pa_cons (pv 8) pa_nil)))))
      (pss_cons (ps_expr (pe_bm PySem.F.plainAttrs_list PySem.F.slot_list_append PySem.F.type_list_append mt_append (pv 2) (pa_cons (pe_callB call_len_seq (by rfl) (T.free 91) PySem.boot_len (pa_cons (pv 10) pa_nil)) pa_nil)))
      (pss_cons (ps_expr (pe_bm PySem.F.plainAttrs_list PySem.F.slot_list_extend PySem.F.type_list_extend mt_extend (pv 2) (pa_cons (pv 10) pa_nil)))
      (pss_one (ps_set (i := 3) sc.nd rfl (Or.inl rfl) (pv 9)))))))))))
      (pss_one (ps_ret (pv 2)))))), ?_⟩
  obtain ⟨xsS, hS1, hS2⟩ := shapes_ok (refT T).shp
  obtain ⟨cs0, hcs0, has0, htot⟩ := BF.asked_inv hask
  have hans0 := BF.answers_calls hcs0
  have fit : ∀ {n : Nat}, n ≤ 10000001 → n ≤ sizeLine := fun h => by rw [sizeLine_eq]; omega
  refine fun x dx nx ndx nex => ⟨x, dx, rfl, upd_same, rfl, Nat.zero_le _, fun fd hfd => ⟨_, _, rfl, ?_⟩⟩
  refine ⟨Turn K a x fd L, ⟨_, 0, [], none, L.length, cs0, _, _, _, _, _, _, _, rfl, rfl, ?_⟩, ?_⟩
  · exact ahead_first ha nx ndx hfd hcs0 has0 hans0
  rintro m σ H1 ⟨pos, out, st, f, cs, o4, o5, o6, o7, o8, o9, o10, rfl, hm, A1⟩
  have harg := off_same.seq A1.arg
  have hle := A1.le
  refine ⟨_, rfl, _, rfl, a, _, rfl, .inl harg, _, _, rfl, rfl, _, rfl, ?_⟩
  rw [List.length_map]
  by_cases c : pos = L.length
  · rw [decide_eq_false (by omega)]
    refine iteF ⟨_, rfl, ret fd H1 ?_⟩
    have h1 := A1.calls
    rw [c, List.drop_length] at h1
    have e := BF.calls_nil h1
    subst e
    have he := A1.eq
    rw [show BF.tailOf st [] = [] from rfl, List.append_nil] at he
    rw [← he]
    exact A1.found
  rw [decide_eq_true (by omega)]
  refine iteT ⟨fun σ' H' => ∃ m', m' < m ∧ Turn K a x fd L m' σ' H', fun σ' H' h => h, ?_⟩
  -- the call that stands here
  have hlt : pos < L.length := by omega
  have hdr : L.drop pos = L[pos] :: L.drop (pos + 1) := List.drop_eq_getElem_cons hlt
  have hat : L[pos]? = some L[pos] := List.getElem?_eq_getElem hlt
  have hcalls := A1.calls
  rw [hdr] at hcalls
  generalize L[pos] = op at hdr hat hcalls
  obtain ⟨f', cl, t, cs', hcall, hcalls', rfl⟩ := BF.calls_inv hcalls
  obtain ⟨n, k, xs, hsh, hn, hrows, rfl⟩ := BF.call_inv hcall
  rw [List.length_drop] at hn
  rw [List.drop_drop] at hrows
  obtain ⟨o, hop, hL⟩ := BF.lawful_of (A1.asked _ List.mem_cons_self)
  obtain ⟨q, hq1, hq2, rfl, hxl⟩ := BF.rows_at (by omega) hrows
  obtain ⟨j, rfl, hshp, hn4, hk2⟩ := shape_at hsh
  obtain ⟨v, hv, r, rfl, hr2⟩ := hS2.get2 hshp
  -- operation, whole, many, behind
  refine ⟨_, rfl, _, rfl, a, _, _, _, rfl, rfl, harg, at_of (j := pos) rfl (by rw [List.getElem?_map, hat]; rfl), ?_⟩
  refine ⟨_, rfl, _, _, _, _, rfl, rfl, hS1 _, at_of (j := j) rfl hv, r, _, rfl, hr2 _, rfl, _, _, rfl, _, _, rfl, rfl, ?_⟩
  refine ⟨_, rfl, _, _, rfl, rfl, _, rfl, _, _, rfl, rfl, ?_⟩
  have eb : ((pos + 1 + n : Nat) : Int) = (pos : Int) + 1 + n := by omega
  -- lists, end
  refine ⟨_, rfl, _, rfl, _, rfl, a, L, pos + 1 + n, k, q, xs, by rw [eb]; rfl, harg, by omega, by omega, hk2, hq2, hrows, fun tt l H2 htt S2 hrl htup => ?_⟩
  refine ⟨tt, _, rfl, SqT.of htup, rfl, _, _, rfl, _, _, rfl, rfl, ?_⟩
  -- answer
  have hses := (off_same.trans S2).ses A1.ses
  have hsesp := hses
  obtain ⟨dxs, vs, hps, _⟩ := hsesp
  refine ⟨_, rfl, x, dxs, _, rfl, hps, seF_none (by decide +kernel), _, rfl, _, rfl, _, rfl, _, _, rfl, rfl, _, rfl, _, rfl, _, rfl, a, _, rfl, S2.seq harg, fun nl hnl => ?_⟩
  rw [cut_mid (i := pos + 1) (j := pos + 1 + n) (by omega) (by omega) (by rw [List.length_map]; omega) (by omega)]
  have ec : List.take (pos + 1 + n - (pos + 1)) (List.drop (pos + 1) (L.map V.int)) = ((L.drop (pos + 1)).take n).map V.int := by
    rw [show pos + 1 + n - (pos + 1) = n by omega, ← List.map_drop, ← List.map_take]
  rw [ec]
  have S3 := S2.trans (Same.upd (o := .lst (((L.drop (pos + 1)).take n).map V.int)) hnl)
  have hnl3 := upd_same (H := H2) (a := nl) (o := .lst (((L.drop (pos + 1)).take n).map V.int))
  have hrl3 : RowsL (upd H2 nl (.lst (((L.drop (pos + 1)).take n).map V.int))) l xs := by
    obtain ⟨ys, h1, h2⟩ := hrl
    have S := Same.upd (o := .lst (((L.drop (pos + 1)).take n).map V.int)) hnl
    exact ⟨ys, S _ _ h1, Paired.impl (fun _ _ h => S.intsL h) h2⟩
  generalize upd H2 nl (.lst (((L.drop (pos + 1)).take n).map V.int)) = H3 at *
  refine ⟨_, rfl, x, nl, l, _, _, xs, o, st, rfl, (off_same.trans S3).ses A1.ses, hnl3, hrl3, hL, fun an H4 han calm hs4 hres => ?_⟩
  have hf3 := S3 _ _ A1.found
  have hf4 := calm.ints hf3
  have hanf : an ≠ fd := (ne_of_none hf3 han).symm
  have hses4 := hs4 fd out hf3 A1.ne
  have harg4 : SqL K (off H4 fd) a (L.map V.int) := (Calm.off calm).seq ((Same.off S3).seq A1.arg)
  have hstep := BF.step_eq hop st
  have heq := A1.eq
  rw [BF.tail_cons, hstep] at heq
  generalize Kvg6.execute st o = R at *
  have htl := congrArg List.length heq
  simp only [List.length_append, List.length_cons] at htl
  -- found.append(len(answer))
  refine ⟨_, rfl, .inl ⟨rfl, _, SqL.of hf4⟩, _, rfl, an, _, rfl, .inl (SqL.of hres), fd, _, _, rfl, rfl, hf4, Nat.lt_of_lt_of_le (Nat.lt_succ_self _) (fit (by rw [List.length_map]; omega)), ?_⟩
  -- found.extend(answer)
  refine ⟨_, rfl, .inl ⟨rfl, _, SqL.of upd_same⟩, _, rfl, fd, an, _, _, rfl, rfl, upd_same, by rw [upd_ne hanf]; exact hres, fit (by simp only [List.length_append, List.length_map, List.length_cons, List.length_nil]; omega), ?_⟩
  -- position = end
  refine ⟨_, rfl, L.length - q, by omega, q, out ++ (((R.2.code :: R.2.values).length : Int) :: (R.2.code :: R.2.values)), R.1, f', cs', _, _, _, _, _, _, _, rfl, rfl, hq2, hcalls', fun c hc => A1.asked c (List.mem_cons_of_mem _ hc), ?_, ?_, ?_, ?_, fun _ z => ?_⟩
  · rw [← heq, List.append_assoc]
    rfl
  · rw [off_upd, off_upd]
    exact harg4
  · rw [upd_same, List.length_map, List.map_append, List.append_assoc]
    rfl
  · rw [off_upd, off_upd]
    exact hses4
  · have := congrArg List.length z
    rw [List.length_append] at this
    simp at this
end
end S2
end BFW
namespace BFW
namespace S2
open PySem PySem.Spec PyProof.Rows L2 BFH
open PySem.W (WData Codec OpenSpec)
/-- a Spec row from the promise of its def, where the head tells the frame -/
theorem walk_specE {r : OpenSpec} {k : Nat} {q : Program} {loose : List Str} {XP : (Str → Option Value) → Heap → Prop} {YP : World → Heap → Prop} {d : DefRec} {CX : World → CXT} {ps : List Str}
    (hwell : r.wellSaid = true) (hlen : r.args.length = ps.length) (hr : Room k callerA)
    (F : ∀ (w : World) (mg : Str → Option Value) (fa : Addr) (h : Heap), YP w h → h.Ns mainGlobals mg → mg d.name = some (.ref fa) →
      ∃ (K : PySem.W.Frag) (fd : FuncData) (sp : Sp), K.In h ∧ (∀ (s : Shared) (us : List Value), us.length = ps.length → BindsTo s fd ⟨us, []⟩ (ps.zip us)) ∧
        (∀ (H : Hp) (xs : List V) (a : Codec.denoteAll r.args), Codec.withinAll r.args a = true → Codec.app r.args r.asked a = true → DwAll K H xs (Codec.encAll r.args a) → sp xs H (fun v H' => Dw K H' v (r.ret.enc (Codec.app r.args r.f a))) fun _ _ _ => False) ∧
        ∀ base : Heap, K.In base → base.Ns mainGlobals mg → FnOk r.prog w K mg base (CX w) k fa fd ps sp)
    (hCX : ∀ (w : World) (H : Hp) (s : Shared) (e : Value) (s' : Shared), CX w [] H s (fun _ _ _ => False) e s' → False) :
    PySem.W.WalkOS q loose XP YP r d [] (fun f vs => PySem.call f vs) := by
  intro w s₀ s₁ mg mb G Y fa o pm cd doc dV kV ho hd hcd hD hmg hg args vals as hpre hlay hrd hwl hlo
  obtain ⟨a, e1, e2⟩ := PySem.W.os_pre_some hpre
  obtain ⟨e3, hwi⟩ := Codec.encAll_of_decAll r.args args a e1
  subst e3
  obtain ⟨K, fd, sp, KX, hb, hsp, hF⟩ := F w mg fa _ Y G.T.g hmg
  refine PySem.W.enter_call (codeAny_mono (spec_call (R := []) (cl := classAt s₀.heap) (d0 := r.ret.enc (Codec.app r.args r.f a)) KX G.T.g G.T.b G.T.builtins G.T.nolimit hg hwl (pl_encAll _ _) (layable_weight hlay) hr hF hb (by rw [encAll_len]; exact hlen)
    (fun H xs hO hS => hsp H xs a hwi e2 hS) fun H e s' => hCX w H s₁ e s') fun r' s' hq => ?_)
  obtain ⟨u, as', rfl, h1, h2, h3, h4⟩ := hq
  exact ⟨.inl ⟨u, _, as', rfl, fun _ => rfl, h1, (OpenSpec.post_iff hwell hwi _ _).mpr rfl, fun z => Bool.noConfusion (show false = true from z)⟩, h2, h3, h4⟩
theorem ends (w : World) (mg : Str → Option Value) (fa : Addr) (h : Heap) (Y : hk.says w h) (G : h.Ns mainGlobals mg) (hmg : mg ("answers" : Str) = some (.ref fa)) :
    ∃ (K : PySem.W.Frag) (fd : FuncData) (sp : Sp), K.In h ∧ (∀ (s : Shared) (us : List Value), us.length = (["calls"] : List Str).length → BindsTo s fd ⟨us, []⟩ ((["calls"] : List Str).zip us)) ∧
      (∀ (H : Hp) (xs : List V) (a : Codec.denoteAll PySem.Challenge.rw_boxforest_s01_answers.args), Codec.withinAll PySem.Challenge.rw_boxforest_s01_answers.args a = true → Codec.app PySem.Challenge.rw_boxforest_s01_answers.args PySem.Challenge.rw_boxforest_s01_answers.asked a = true →
        DwAll K H xs (Codec.encAll PySem.Challenge.rw_boxforest_s01_answers.args a) → sp xs H (fun v H' => Dw K H' v (PySem.Challenge.rw_boxforest_s01_answers.ret.enc (Codec.app PySem.Challenge.rw_boxforest_s01_answers.args PySem.Challenge.rw_boxforest_s01_answers.f a))) fun _ _ _ => False) ∧
      ∀ base : Heap, K.In base → base.Ns mainGlobals mg → FnOk PySem.Challenge.rw_boxforest_s01_answers.prog w K mg base CX0 23 fa fd ["calls"] sp := by
  obtain ⟨K, KX, c⟩ := Y
  have T : Tx K mg := ⟨c, h, KX, G⟩
  have A : ∀ base : Heap, Kn PySem.Challenge.rw_boxforest_s01_answers.prog w K mg base "answers" 23 ["calls"] (spAnswers K) := fun base => k_answers T
  have e := hmg.symm.trans (A h).gl
  obtain rfl : fa = He.ga K "answers" := by injection e with e; injection e
  refine ⟨K, fdo K ("answers", none), spAnswers K, KX, fun s us hu => ?_, fun H xs a hwi hask hx => ?_, fun base _ _ => (A base).ok⟩
  · obtain ⟨oc, od, kV, doc, pm, an, cdv, ct, osl, e, _⟩ := (T.fn1 100 (x := "answers") (st := s_answers) rfl).1
    rw [e]
    exact match us, hu with | [_], _ => .of_eq rfl
  · cases hx with
    | cons h1 h2 =>
      cases h2
      cases h1 with
      | lst hs ha =>
        have e := L2.ints_dw a.1 _ ha
        subst e
        have q : ((Codec.inLen 0 30000 a.1 && a.1.all (Codec.inInt (Int.negSucc 2147483647) (Int.ofNat 4294967295))) && true) = true := hwi
        rw [Bool.and_eq_true, Bool.and_eq_true] at q
        exact ⟨_, a.1, rfl, hs, (Codec.inNat_iff.mp q.1.1).2, hask, fun r H' hr => .lst (L2.SqL.of hr) (L2.dw_ints _)⟩
end S2
end BFW
open PySem PySem.W PyProof.Rows
set_option maxRecDepth 100000 in
set_option maxHeartbeats 8000000 in
theorem PySem.Challenge.cw_boxforest_s01_answers_holds : PySem.Challenge.rw_boxforest_s01_answers.Holds := by
  refine HandSHeadRun.head_spec (r := PySem.Challenge.rw_boxforest_s01_answers) (q := BFH.qv) (H := BFH.hk) (ob := BFH.ob) (M := 6000) (loose := BFH.loose) (d := HandSHeadRun.topDef PySem.Challenge.rw_boxforest_s01_answers.prog 115) (kwd := []) BFH.ob_eq
    (by kernel_rfl) (fun s => by kernel_rfl) BFH.run (by kernel_rfl) (by kernel_rfl) (by kernel_rfl) os_shapes (by decide +kernel) (by decide +kernel) ⟨rfl, rfl, rfl, rfl, rfl, by decide +kernel⟩ ?hw ?hc
  case hw => exact ⟨[.list [.int 0]], by decide +kernel, by decide +kernel⟩
  case hc =>
    refine BFW.S2.walk_specE (k := 23) (CX := fun _ => L2.CX0) (ps := ["calls"]) (by decide +kernel) rfl ⟨rfl, by decide, by decide⟩ ?F (fun _ _ _ _ _ z => z)
    intro w mg fa h Y G hmg0
    have hmg : mg ("answers" : PySem.Str) = some (.ref fa) := by
      have e : (HandSHeadRun.topDef PySem.Challenge.rw_boxforest_s01_answers.prog 115).name = ("answers" : PySem.Str) := by kernel_rfl
      rw [← e]
      exact hmg0
    exact BFW.S2.ends w mg fa h Y G hmg
