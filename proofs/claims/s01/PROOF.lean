import PyProof.Rows.All
import Wide.All
import OpenK.AllK
import Wide.FinOn
import PyProof.EqAt
import PyProof.EqKinds
import PyProof.TupleCall
import Open.SpecLaws
import KE.OsGo
import KE.KEqDeep
import OpenK.KEqL
import HandS.ForSpec
import HandS.Comp
import HandS.Iter
import HandS.Conv
import HandS.SortRule
import HandS.ExcInit
import HandS.ExcField
import HandS.Flow
import PySem.Challenge.RW_newranks_s01_answers
set_option Elab.async false
set_option linter.all false
set_option maxRecDepth 100000
set_option maxHeartbeats 4000000
namespace Nr
open Sj11
/-! ## Plain mathematics: what the program computes is what the specification says -/
/-! ### may a wrestler have a rank -/
def mayHave (w : Wrestler) (old new : Nat) : Bool :=
  if w.losses < w.wins then decide (new ≤ old) else (decide (w.wins = w.losses) || decide (old ≤ new))
def okAt (r : Ranks) (l : List Nat) (i : Nat) : Bool := mayHave (r.of_ i) i (l.getD i 0)
theorem bad_is (r : Ranks) (l : List Nat) (i : Nat) :
    ((r.up i && decide (i < l.getD i 0)) || (r.down i && decide (l.getD i 0 < i))) = !okAt r l i := by
  unfold okAt mayHave Ranks.up Ranks.down
  generalize l.getD i 0 = x
  generalize r.of_ i = w
  obtain ⟨a, b⟩ := w
  by_cases h : b < a
  · have h2 : ¬ a < b := by omega
    simp [h, h2]
    by_cases c : i < x
    · simp [c, show ¬ x ≤ i by omega]
    · simp [c, show x ≤ i by omega]
  · by_cases h2 : a < b
    · have h3 : ¬ a = b := by omega
      simp [h, h2, h3]
      by_cases c : x < i
      · simp [c, show ¬ i ≤ x by omega]
      · simp [c, show i ≤ x by omega]
    · have h3 : a = b := by omega
      simp [h3]
theorem wrong_eq (r : Ranks) (l : List Nat) : r.wrong l = (List.range r.count).find? fun i => !okAt r l i := by
  unfold Ranks.wrong
  congr 1
  funext i
  exact bad_is r l i
theorem wrong_none {r : Ranks} {l : List Nat} (h : ∀ i, i < r.count → okAt r l i = true) : r.wrong l = none := by
  rw [wrong_eq, List.find?_range_eq_none]
  intro i hi
  rw [h i hi]
  rfl
theorem wrong_some {r : Ranks} {l : List Nat} {i : Nat} (hi : i < r.count) (h : ∀ j, j < i → okAt r l j = true) (hb : okAt r l i = false) : r.wrong l = some i := by
  rw [wrong_eq, List.find?_range_eq_some]
  refine ⟨by rw [hb]; rfl, List.mem_range.mpr hi, fun j hj => ?_⟩
  rw [h j hj]
  rfl
theorem wrong_isNone (r : Ranks) (l : List Nat) : (r.wrong l).isNone = (List.range r.count).all (okAt r l) := by
  rw [Bool.eq_iff_iff, Option.isNone_iff_eq_none, wrong_eq, List.find?_range_eq_none, List.all_eq_true]
  constructor
  · intro h i hi
    have := h i (List.mem_range.mp hi)
    simpa using this
  · intro h i hi
    rw [h i (List.mem_range.mpr hi)]
    rfl
/-! ### all lists that can be, place by place -/
def cands (r : Ranks) (k : Nat) (b : List Nat) : List Nat := (List.range r.count).filter fun x => !b.contains x && mayHave (r.of_ k) k x
def longer (r : Ranks) (k : Nat) (b : List Nat) : List (List Nat) := (cands r k b).map fun x => b ++ [x]
def level (r : Ranks) : Nat → List (List Nat)
  | 0 => [[]]
  | k + 1 => (level r k).flatMap (longer r k)
def go (r : Ranks) : Nat → Nat → List Nat → List (List Nat)
  | 0, _, b => [b]
  | m + 1, k, b => (cands r k b).flatMap fun x => go r m (k + 1) (b ++ [x])
theorem level_go (r : Ranks) : ∀ m k, level r (k + m) = (level r k).flatMap (go r m k)
  | 0, k => by
    show level r k = (level r k).flatMap fun b => [b]
    rw [List.flatMap_singleton']
  | m + 1, k => by
    have ih := level_go r m (k + 1)
    rw [show k + (m + 1) = (k + 1) + m by omega, ih]
    show ((level r k).flatMap (longer r k)).flatMap (go r m (k + 1)) = _
    rw [List.flatMap_assoc]
    congr 1
    funext b
    show ((cands r k b).map fun x => b ++ [x]).flatMap (go r m (k + 1)) = _
    rw [List.flatMap_map]
    rfl
theorem level_len (r : Ranks) (k : Nat) : ∀ l ∈ level r k, l.length = k := by
  induction k with
  | zero =>
    intro l h
    have : l = [] := by simpa [level] using h
    rw [this]
    rfl
  | succ k ih =>
    intro l h
    obtain ⟨b, hb, h2⟩ := List.mem_flatMap.mp h
    obtain ⟨x, _, rfl⟩ := List.mem_map.mp h2
    rw [List.length_append, ih b hb]
    rfl
theorem level_size (r : Ranks) (k : Nat) : (level r k).length ≤ r.count ^ k := by
  induction k with
  | zero => exact Nat.le_refl 1
  | succ k ih =>
    have key : ∀ L : List (List Nat), (L.flatMap (longer r k)).length ≤ L.length * r.count := by
      intro L
      induction L with
      | nil => exact Nat.zero_le _
      | cons b L ih2 =>
        rw [List.flatMap_cons, List.length_append, List.length_cons, Nat.succ_mul, Nat.add_comm]
        refine Nat.add_le_add ih2 ?_
        unfold longer cands
        rw [List.length_map]
        refine Nat.le_trans (List.length_filter_le _ _) ?_
        rw [List.length_range]
        exact Nat.le_refl _
    exact Nat.le_trans (key _) (by rw [Nat.pow_succ]; exact Nat.mul_le_mul_right _ ih)
/-- the numbers that a beginning leaves -/
def avail (r : Ranks) (b : List Nat) : List Nat := (List.range r.count).filter fun x => !b.contains x
theorem avail_snoc (r : Ranks) (b : List Nat) (x : Nat) : (avail r b).filter (fun y => y != x) = avail r (b ++ [x]) := by
  unfold avail
  rw [List.filter_filter]
  congr 1
  funext y
  by_cases h : y = x
  · simp [h]
  · simp [h]
/-- each place from k on fits -/
def okFrom (r : Ranks) (k m : Nat) (l : List Nat) : Bool := (List.range m).all fun j => okAt r l (k + j)
theorem okFrom_succ (r : Ranks) (k m : Nat) (l : List Nat) : okFrom r k (m + 1) l = (okAt r l k && okFrom r (k + 1) m l) := by
  unfold okFrom
  rw [List.range_succ_eq_map, List.all_cons, List.all_map]
  congr 1
  congr 1
  funext j
  show okAt r l (k + (j + 1)) = okAt r l (k + 1 + j)
  rw [show k + (j + 1) = k + 1 + j by omega]
theorem flatMap_filter_if {α β : Type} (p : α → Bool) (f : α → List β) : ∀ l : List α, (l.filter p).flatMap f = l.flatMap fun x => if p x = true then f x else []
  | [] => rfl
  | x :: l => by
    rw [List.flatMap_cons]
    by_cases h : p x = true
    · rw [List.filter_cons_of_pos h, List.flatMap_cons, if_pos h, flatMap_filter_if p f l]
    · rw [List.filter_cons_of_neg h, if_neg h, flatMap_filter_if p f l]
      rfl
theorem filter_flatMap {α β : Type} (q : β → Bool) (f : α → List β) : ∀ l : List α, (l.flatMap f).filter q = l.flatMap fun x => (f x).filter q
  | [] => rfl
  | x :: l => by
    rw [List.flatMap_cons, List.flatMap_cons, List.filter_append, filter_flatMap q f l]
theorem go_is (r : Ranks) : ∀ (m k : Nat) (b : List Nat), b.length = k → go r m k b = ((orders m (avail r b)).map fun t => b ++ t).filter (okFrom r k m)
  | 0, k, b, _ => by
    show [b] = List.filter (okFrom r k 0) [b ++ []]
    rw [List.append_nil]
    rfl
  | m + 1, k, b, hb => by
    show (cands r k b).flatMap (fun x => go r m (k + 1) (b ++ [x])) = ((((avail r b).flatMap fun x => (orders m ((avail r b).filter fun y => y != x)).map fun t => x :: t)).map fun t => b ++ t).filter (okFrom r k (m + 1))
    have e1 : cands r k b = (avail r b).filter fun x => mayHave (r.of_ k) k x := by
      unfold cands avail
      rw [List.filter_filter]
      congr 1
      funext x
      rw [Bool.and_comm]
    rw [e1, flatMap_filter_if, List.map_flatMap, filter_flatMap]
    congr 1
    funext x
    rw [avail_snoc, List.map_map]
    have len : (b ++ [x]).length = k + 1 := by rw [List.length_append, hb]; rfl
    have at_ : ∀ t : List Nat, okAt r (b ++ x :: t) k = mayHave (r.of_ k) k x := by
      intro t
      unfold okAt
      have : (b ++ x :: t).getD k 0 = x := by
        rw [List.getD_eq_getElem?_getD, List.getElem?_append_right (by omega), hb, Nat.sub_self]
        rfl
      rw [this]
    have sh : ((fun t => b ++ t) ∘ fun t => x :: t) = fun t => (b ++ [x]) ++ t := by
      funext t
      show b ++ x :: t = (b ++ [x]) ++ t
      rw [List.append_assoc]
      rfl
    rw [sh]
    by_cases h : mayHave (r.of_ k) k x = true
    · rw [if_pos h, go_is r m (k + 1) (b ++ [x]) len]
      refine List.filter_congr fun l hl => ?_
      obtain ⟨t, _, rfl⟩ := List.mem_map.mp hl
      rw [okFrom_succ, List.append_assoc]
      show _ = (okAt r (b ++ x :: t) k && _)
      rw [at_ t, h, Bool.true_and]
    · rw [if_neg h]
      symm
      refine List.filter_eq_nil_iff.mpr fun l hl => ?_
      obtain ⟨t, _, rfl⟩ := List.mem_map.mp hl
      rw [okFrom_succ, List.append_assoc]
      show ¬ (okAt r (b ++ x :: t) k && _) = true
      rw [at_ t]
      simp [h]
theorem orders_len : ∀ (m : Nat) (s l : List Nat), l ∈ orders m s → l.length = m
  | 0, s, l, h => by
    have : l = [] := by simpa [orders] using h
    rw [this]
    rfl
  | m + 1, s, l, h => by
    obtain ⟨x, _, h2⟩ := List.mem_flatMap.mp h
    obtain ⟨t, ht, rfl⟩ := List.mem_map.mp h2
    rw [List.length_cons, orders_len m _ t ht]
theorem filter_ne_len : ∀ (s : List Nat) (x : Nat), s.Nodup → x ∈ s → (s.filter fun y => y != x).length + 1 = s.length
  | [], x, _, h => nomatch h
  | a :: s, x, nd, h => by
    obtain ⟨na, nd'⟩ := List.nodup_cons.mp nd
    by_cases e : a = x
    · subst e
      rw [List.filter_cons_of_neg (by simp)]
      have : s.filter (fun y => y != a) = s := List.filter_eq_self.mpr fun y hy => by
        have : y ≠ a := fun z => na (z ▸ hy)
        simpa using this
      rw [this]
      rfl
    · have hx : x ∈ s := by
        rcases List.mem_cons.mp h with z | z
        · exact absurd z.symm e
        · exact z
      rw [List.filter_cons_of_pos (by simpa using e), List.length_cons, List.length_cons, filter_ne_len s x nd' hx]
theorem orders_has : ∀ (m : Nat) (s l : List Nat), s.Nodup → s.length = m → l ∈ orders m s → ∀ x ∈ s, x ∈ l
  | 0, s, l, _, hl, _, x, hx => by
    have : s = [] := List.eq_nil_of_length_eq_zero hl
    rw [this] at hx
    exact nomatch hx
  | m + 1, s, l, nd, hl, h, x, hx => by
    obtain ⟨y, hy, h2⟩ := List.mem_flatMap.mp h
    obtain ⟨t, ht, rfl⟩ := List.mem_map.mp h2
    by_cases e : x = y
    · rw [e]
      exact List.mem_cons_self
    · have hn := filter_ne_len s y nd hy
      refine List.mem_cons_of_mem _ (orders_has m (s.filter fun z => z != y) t (nd.filter _) (by omega) ht x ?_)
      exact List.mem_filter.mpr ⟨hx, by simpa using e⟩
theorem level_all (r : Ranks) : level r r.count = r.lists := by
  have h := level_go r r.count 0
  rw [Nat.zero_add] at h
  rw [h]
  show [[]].flatMap (go r r.count 0) = _
  rw [List.flatMap_singleton, go_is r r.count 0 [] rfl]
  have e : avail r [] = List.range r.count := List.filter_eq_self.mpr fun x _ => rfl
  rw [e, show (fun t : List Nat => [] ++ t) = id from rfl, List.map_id]
  unfold Ranks.lists
  refine List.filter_congr fun l hl => ?_
  unfold Ranks.right Ranks.told
  have e1 := orders_len _ _ l hl
  have e2 := orders_has _ _ l List.nodup_range List.length_range hl
  have e3 : (List.range r.count).all (fun i => l.contains i) = true := List.all_eq_true.mpr fun i hi => by simpa using e2 i hi
  rw [e3, e1, wrong_isNone]
  unfold okFrom
  simp
/-- the old list can be -/
theorem right_range (r : Ranks) : r.right (List.range r.count) = true := by
  unfold Ranks.right Ranks.told
  have h : (r.wrong (List.range r.count)) = none := wrong_none fun i hi => by
    unfold okAt mayHave
    have : (List.range r.count).getD i 0 = i := by
      rw [List.getD_eq_getElem?_getD, List.getElem?_range hi]
      rfl
    rw [this]
    split <;> simp
  rw [h]
  simp
theorem orders_self : ∀ (m : Nat) (s : List Nat), s.Nodup → s.length = m → s ∈ orders m s
  | 0, s, _, h => by
    rw [List.eq_nil_of_length_eq_zero h]
    exact List.mem_singleton.mpr rfl
  | m + 1, [], _, h => by cases h
  | m + 1, x :: s, nd, h => by
    obtain ⟨nx, nd'⟩ := List.nodup_cons.mp nd
    refine List.mem_flatMap.mpr ⟨x, List.mem_cons_self, List.mem_map.mpr ⟨s, ?_, rfl⟩⟩
    have e : (x :: s).filter (fun y => y != x) = s := by
      rw [List.filter_cons_of_neg (by simp)]
      exact List.filter_eq_self.mpr fun y hy => by
        have : y ≠ x := fun z => nx (z ▸ hy)
        simpa using this
    rw [e]
    exact orders_self m s nd' (by simpa using h)
theorem lists_ne (r : Ranks) : r.lists ≠ [] := by
  have h : List.range r.count ∈ r.lists := List.mem_filter.mpr ⟨orders_self _ _ List.nodup_range List.length_range, right_range r⟩
  intro e
  rw [e] at h
  exact nomatch h
theorem lists_len (r : Ranks) : ∀ l ∈ r.lists, l.length = r.count := by
  intro l h
  rw [← level_all] at h
  exact level_len r _ l h
/-! ### the best of some lists -/
structure Rep (f : List Nat → Nat) (q : List (List Nat)) (x : Best) : Prop where
  mem : x.far ∈ q.map f
  le : ∀ l ∈ q, x.far ≤ f l
  many : x.many = (q.filter fun l => f l == x.far).length
  row : (q.filter fun l => f l == x.far).head? = some x.row
def bstep (f : List Nat → Nat) (b : Option Best) (l : List Nat) : Option Best := let n := f l
  match b with
  | none => some ⟨n, 1, l⟩
  | some x => if n < x.far then some ⟨n, 1, l⟩ else if n = x.far then some { x with many := x.many + 1 } else some x
theorem bestBy_fold (f : List Nat → Nat) (p : List (List Nat)) : bestBy f p = p.foldl (bstep f) none := rfl
theorem rep_fold (f : List Nat → Nat) : ∀ (p q : List (List Nat)) (x : Best), Rep f q x → ∃ y, p.foldl (bstep f) (some x) = some y ∧ Rep f (q ++ p) y
  | [], q, x, h => ⟨x, rfl, by rw [List.append_nil]; exact h⟩
  | l :: p, q, x, h => by
    have e : q ++ l :: p = (q ++ [l]) ++ p := by rw [List.append_assoc]; rfl
    rw [e, List.foldl_cons]
    show ∃ y, p.foldl (bstep f) (if f l < x.far then some ⟨f l, 1, l⟩ else if f l = x.far then some { x with many := x.many + 1 } else some x) = some y ∧ _
    by_cases c1 : f l < x.far
    · rw [if_pos c1]
      have e0 : q.filter (fun m => f m == f l) = [] := List.filter_eq_nil_iff.mpr fun m hm => by
        have := h.le m hm
        have : ¬ f m = f l := by omega
        simpa using this
      refine rep_fold f p (q ++ [l]) _ ⟨?_, ?_, ?_, ?_⟩
      · simp
      · intro m hm
        rcases List.mem_append.mp hm with z | z
        · have := h.le m z
          show f l ≤ f m
          omega
        · rw [List.mem_singleton.mp z]
          exact Nat.le_refl _
      · show 1 = _
        rw [List.filter_append, e0]
        simp
      · show (List.filter (fun m => f m == f l) (q ++ [l])).head? = some l
        rw [List.filter_append, e0]
        simp
    · rw [if_neg c1]
      by_cases c2 : f l = x.far
      · rw [if_pos c2]
        refine rep_fold f p (q ++ [l]) _ ⟨?_, ?_, ?_, ?_⟩
        · show x.far ∈ _
          rw [List.map_append]
          exact List.mem_append_left _ h.mem
        · intro m hm
          show x.far ≤ f m
          rcases List.mem_append.mp hm with z | z
          · exact h.le m z
          · rw [List.mem_singleton.mp z, c2]
            exact Nat.le_refl _
        · show x.many + 1 = (List.filter (fun m => f m == x.far) (q ++ [l])).length
          rw [List.filter_append, List.length_append, h.many]
          simp [c2]
        · show (List.filter (fun m => f m == x.far) (q ++ [l])).head? = some x.row
          rw [List.filter_append, List.head?_append, h.row]
          rfl
      · rw [if_neg c2]
        refine rep_fold f p (q ++ [l]) _ ⟨?_, ?_, ?_, ?_⟩
        · rw [List.map_append]
          exact List.mem_append_left _ h.mem
        · intro m hm
          rcases List.mem_append.mp hm with z | z
          · exact h.le m z
          · rw [List.mem_singleton.mp z]
            omega
        · rw [List.filter_append, List.length_append, h.many]
          simp [c2]
        · rw [List.filter_append, List.head?_append, h.row]
          rfl
theorem bestBy_rep (f : List Nat → Nat) : ∀ p : List (List Nat), p ≠ [] → ∃ y, bestBy f p = some y ∧ Rep f p y
  | [], h => absurd rfl h
  | l :: p, _ => by
    have h0 : Rep f [l] ⟨f l, 1, l⟩ := by
      refine ⟨by simp, fun m hm => ?_, by simp, by simp⟩
      rw [List.mem_singleton.mp hm]
      exact Nat.le_refl _
    exact rep_fold f p [l] _ h0
/-- least's numbers -/
theorem bestBy_least (f : List Nat → Nat) (p : List (List Nat)) (m : Nat) (hm : m ∈ p.map f) (hle : ∀ l ∈ p, m ≤ f l) :
    ∃ y, bestBy f p = some y ∧ y.far = m ∧ y.many = (p.filter fun l => f l == m).length ∧ (p.filter fun l => f l == m).head? = some y.row := by
  have hp : p ≠ [] := by
    intro e
    rw [e] at hm
    exact nomatch hm
  obtain ⟨y, e, h⟩ := bestBy_rep f p hp
  have : y.far = m := by
    obtain ⟨l, hl, e1⟩ := List.mem_map.mp hm
    obtain ⟨l2, hl2, e2⟩ := List.mem_map.mp h.mem
    have a := h.le l hl
    have b := hle l2 hl2
    omega
  have hmany := h.many
  have hrow := h.row
  rw [this] at hmany hrow
  exact ⟨y, e, this, hmany, hrow⟩
/-! ### how far -/
theorem off_int (r : Ranks) (l : List Nat) (i : Nat) (z : Int) (hz : z = 10 * (l.getD i 0 : Int) - r.earned i) : (if z < 0 then -z else z) = ((r.off l i : Nat) : Int) := by
  unfold Ranks.off
  rw [← hz]
  split <;> omega
def offs (r : Ranks) (l : List Nat) : List Nat := (List.range r.count).map (r.off l)
theorem sum_cast : ∀ l : List Nat, (l.map fun n : Nat => (n : Int)).sum = ((l.sum : Nat) : Int)
  | [] => rfl
  | x :: l => by
    rw [List.map_cons, List.sum_cons, List.sum_cons, sum_cast l]
    omega
theorem foldl_max_le : ∀ (l : List Nat) (a : Nat), a ≤ l.foldl max a ∧ (∀ x ∈ l, x ≤ l.foldl max a) ∧ (l.foldl max a = a ∨ l.foldl max a ∈ l)
  | [], a => ⟨Nat.le_refl _, (fun _ h => nomatch h), .inl rfl⟩
  | x :: l, a => by
    obtain ⟨h1, h2, h3⟩ := foldl_max_le l (max a x)
    rw [List.foldl_cons]
    refine ⟨by omega, fun y hy => ?_, ?_⟩
    · rcases List.mem_cons.mp hy with e | e
      · rw [e]
        omega
      · exact h2 y e
    · rcases h3 with e | e
      · rw [e]
        by_cases c : a ≤ x
        · exact .inr (by rw [Nat.max_eq_right c]; exact List.mem_cons_self)
        · exact .inl (Nat.max_eq_left (by omega))
      · exact .inr (List.mem_cons_of_mem _ e)
/-- max([0] + offs) -/
theorem max_is {l : List Nat} {m : Int} (hm : m ∈ (0 :: l.map fun n : Nat => (n : Int))) (hle : ∀ y, y ∈ (0 :: l.map fun n : Nat => (n : Int)) → y ≤ m) : m = ((l.foldl max 0 : Nat) : Int) := by
  obtain ⟨h1, h2, h3⟩ := foldl_max_le l 0
  have a : ((l.foldl max 0 : Nat) : Int) ≤ m := by
    rcases h3 with e | e
    · rw [e]
      exact hle 0 List.mem_cons_self
    · exact hle _ (List.mem_cons_of_mem _ (List.mem_map.mpr ⟨_, e, rfl⟩))
  have b : m ≤ ((l.foldl max 0 : Nat) : Int) := by
    rcases List.mem_cons.mp hm with e | e
    · rw [e]
      omega
    · obtain ⟨n, hn, rfl⟩ := List.mem_map.mp e
      have := h2 n hn
      omega
  omega
/-! ### a list told: sorted -/
theorem perm_of_subset : ∀ {s l : List Nat}, s.Nodup → s ⊆ l → l.length ≤ s.length → s.Perm l
  | [], l, _, _, h => by
    rw [List.eq_nil_of_length_eq_zero (Nat.le_zero.mp h)]
  | x :: s, l, nd, sub, h => by
    obtain ⟨nx, nd'⟩ := List.nodup_cons.mp nd
    have hx : x ∈ l := sub List.mem_cons_self
    have p := List.perm_cons_erase hx
    have hl : (l.erase x).length + 1 = l.length := by
      have := p.length_eq
      rw [List.length_cons] at this
      exact this.symm
    refine List.Perm.trans (List.Perm.cons x (perm_of_subset nd' (fun y hy => ?_) ?_)) p.symm
    · exact (List.mem_erase_of_ne fun e => nx (by rw [← e]; exact hy)).mpr (sub (List.mem_cons_of_mem _ hy))
    · rw [List.length_cons] at h
      omega
theorem told_iff (r : Ranks) (l : List Nat) : r.told l = true ↔ l.Perm (List.range r.count) := by
  unfold Ranks.told
  rw [Bool.and_eq_true, beq_iff_eq, List.all_eq_true]
  constructor
  · rintro ⟨hl, h⟩
    have sub : (List.range r.count) ⊆ l := fun i hi => by simpa using h i hi
    exact (perm_of_subset List.nodup_range sub (by rw [List.length_range]; omega)).symm
  · intro h
    refine ⟨by rw [h.length_eq, List.length_range], fun i hi => ?_⟩
    simpa using h.mem_iff.mpr hi
end Nr
namespace Nr
open Sj11
def nI (l : List Nat) : List Int := l.map fun n : Nat => (n : Int)
theorem nI_inj {a b : List Nat} (h : nI a = nI b) : a = b := by
  have e : ∀ l : List Nat, (nI l).map Int.toNat = l := fun l => by
    unfold nI
    rw [List.map_map]
    exact List.map_id _
  rw [← e a, ← e b, h]
/-! ### check: sorted(new) == list(range(n)) -/
theorem sorted_told (r : Ranks) (l : List Nat) (ns : List Int) (hp : ns.Perm (nI l)) (hs : ns.Pairwise (· ≤ ·)) : decide (ns = nI (List.range r.count)) = r.told l := by
  rw [Bool.eq_iff_iff, decide_eq_true_iff, told_iff]
  constructor
  · intro e
    rw [e] at hp
    have h2 : ((nI (List.range r.count)).map Int.toNat).Perm ((nI l).map Int.toNat) := hp.map _
    have e : ∀ l : List Nat, (nI l).map Int.toNat = l := fun l => by
      unfold nI
      rw [List.map_map]
      exact List.map_id _
    rw [e, e] at h2
    exact h2.symm
  · intro h
    have h2 : ns.Perm (nI (List.range r.count)) := hp.trans (h.map _)
    refine List.Perm.eq_of_pairwise (le := (· ≤ ·)) (fun a b _ _ h1 h2 => Int.le_antisymm h1 h2) hs ?_ h2
    unfold nI
    rw [List.pairwise_map]
    refine List.Pairwise.imp ?_ (List.pairwise_lt_range (n := r.count))
    intro a b h
    omega
/-! ### plain: by what is earned alone -/
def ple (r : Ranks) (i k : Nat) : Bool := decide (r.earned i < r.earned k) || (decide (r.earned i = r.earned k) && decide (i ≤ k))
def order (r : Ranks) : List Nat := (List.range r.count).mergeSort (ple r)
theorem plain_eq (r : Ranks) : r.plain = (List.range r.count).map fun i => (order r).findIdx fun x => x == i := rfl
theorem ple_iff {r : Ranks} {i k : Nat} : ple r i k = true ↔ r.earned i < r.earned k ∨ (r.earned i = r.earned k ∧ i ≤ k) := by
  unfold ple
  rw [Bool.or_eq_true, Bool.and_eq_true, decide_eq_true_iff, decide_eq_true_iff, decide_eq_true_iff]
theorem order_perm (r : Ranks) : (order r).Perm (List.range r.count) := List.mergeSort_perm _ _
theorem order_uniq (r : Ranks) {o : List Nat} (hp : o.Perm (List.range r.count)) (hs : o.Pairwise fun i k => ple r i k = true) : o = order r := by
  refine List.Perm.eq_of_pairwise (le := fun i k => ple r i k = true) (fun a b _ _ h1 h2 => ?_) hs ?_ (hp.trans (order_perm r).symm)
  · rw [ple_iff] at h1 h2
    omega
  · refine List.pairwise_mergeSort (le := ple r) (fun a b c h1 h2 => ?_) (fun a b => ?_) _
    · rw [ple_iff] at h1 h2 ⊢
      omega
    · rw [Bool.or_eq_true, ple_iff, ple_iff]
      omega
/-- the list behind j places given -/
def fill (r : Ranks) (j : Nat) : List Nat := (List.range r.count).map fun i => if i ∈ (order r).take j then (order r).findIdx (fun x => x == i) else 0
theorem fill_zero (r : Ranks) : fill r 0 = List.replicate r.count 0 := by
  unfold fill
  rw [List.take_zero]
  refine List.ext_getElem (by simp) fun i h1 h2 => ?_
  simp
theorem order_len (r : Ranks) : (order r).length = r.count := by
  rw [(order_perm r).length_eq, List.length_range]
theorem order_nodup (r : Ranks) : (order r).Nodup := (order_perm r).symm.nodup List.nodup_range
theorem fill_all (r : Ranks) : fill r r.count = r.plain := by
  rw [plain_eq]
  unfold fill
  refine List.map_congr_left fun i hi => ?_
  rw [← order_len r, List.take_length, if_pos ((order_perm r).mem_iff.mpr hi)]
theorem idx_of {l : List Nat} (nd : l.Nodup) {j x : Nat} (h : l[j]? = some x) : l.findIdx (fun y => y == x) = j := by
  obtain ⟨hj, e⟩ := List.getElem?_eq_some_iff.mp h
  have h1 : l.findIdx (fun y => y == x) < l.length := List.findIdx_lt_length_of_exists ⟨x, by rw [← e]; exact List.getElem_mem hj, by simp⟩
  have h2 := List.findIdx_getElem (w := h1)
  have e2 : l[l.findIdx (fun y => y == x)] = l[j] := by
    rw [e]
    simpa using h2
  exact (List.getElem_inj nd).mp e2
theorem fill_succ (r : Ranks) {j x : Nat} (h : (order r)[j]? = some x) : fill r (j + 1) = (fill r j).set x j := by
  unfold fill
  refine List.ext_getElem (by simp) fun i h1 h2 => ?_
  have hi : i < r.count := by simpa using h1
  rw [List.getElem_set]
  rw [List.getElem_map, List.getElem_map, List.getElem_range]
  have hx : (order r).findIdx (fun y => y == x) = j := idx_of (order_nodup r) h
  have t : (order r).take (j + 1) = (order r).take j ++ [x] := by
    rw [List.take_add_one, h]
    rfl
  rw [t]
  by_cases e : x = i
  · subst e
    rw [if_pos rfl, if_pos (by simp), hx]
  · rw [if_neg e]
    have : (i ∈ (order r).take j ++ [x]) ↔ (i ∈ (order r).take j) := by
      rw [List.mem_append, List.mem_singleton]
      constructor
      · rintro (h | h)
        · exact h
        · exact absurd h.symm e
      · exact .inl
    by_cases c : i ∈ (order r).take j
    · rw [if_pos c, if_pos (this.mpr c)]
    · rw [if_neg c, if_neg (fun z => c (this.mp z))]
theorem order_lt (r : Ranks) {j x : Nat} (h : (order r)[j]? = some x) : x < r.count :=
  List.mem_range.mp ((order_perm r).mem_iff.mp (List.mem_of_getElem? h))
theorem plain_len (r : Ranks) : r.plain.length = r.count := by
  rw [plain_eq, List.length_map, List.length_range]
/-- the list by what is earned alone is a list: each rank once -/
theorem plain_told (r : Ranks) : r.told r.plain = true := by
  rw [told_iff]
  refine (perm_of_subset List.nodup_range (fun i hi => ?_) (by rw [plain_len, List.length_range]; exact Nat.le_refl _)).symm
  have hi' : i < (order r).length := by rw [order_len]; exact List.mem_range.mp hi
  have e := idx_of (order_nodup r) (List.getElem?_eq_getElem hi')
  rw [plain_eq]
  refine List.mem_map.mpr ⟨(order r)[i], ?_, e⟩
  exact (order_perm r).mem_iff.mp (List.getElem_mem hi')
theorem plain_right (r : Ranks) : r.right r.plain = (r.wrong r.plain).isNone := by
  unfold Ranks.right
  rw [plain_told, Bool.true_and]
/-! ### the state's bounds -/
structure Fine (r : Ranks) : Prop where
  worth : r.worth ≤ 30
  count : r.count ≤ 6
theorem fine_init : Fine init := ⟨Nat.zero_le _, Nat.zero_le _⟩
theorem fine_step {r : Ranks} (h : Fine r) (q : Sj11.Call) : Fine (step r q).1 := by
  cases q with
  | begins w =>
    show Fine (if WORTH < w then (r, ok (-1)) else ((⟨w, []⟩ : Ranks), ok 0)).1
    by_cases c : WORTH < w
    · rw [if_pos c]
      exact h
    · rw [if_neg c]
      exact ⟨by unfold WORTH at c; show w ≤ 30; omega, Nat.zero_le _⟩
  | wrestler w =>
    show Fine (if BOUTS < w.wins + w.losses then (r, ok (-1)) else if COUNT ≤ r.count then (r, ok (-5)) else ({ r with wrestlers := r.wrestlers ++ [w] }, ok ((r.count : Nat) : Int))).1
    by_cases c : BOUTS < w.wins + w.losses
    · rw [if_pos c]
      exact h
    · rw [if_neg c]
      by_cases c2 : COUNT ≤ r.count
      · rw [if_pos c2]
        exact h
      · rw [if_neg c2]
        refine ⟨h.worth, ?_⟩
        show (r.wrestlers ++ [w]).length ≤ 6
        rw [List.length_append]
        unfold COUNT Ranks.count at c2
        show r.wrestlers.length + 1 ≤ 6
        omega
  | check l =>
    show Fine (if r.told l = false then (r, ok (-1)) else (r, _)).1
    split <;> exact h
  | best => exact h
  | fair => exact h
  | plain => exact h
/-! ### a request, call by call -/
/-- a call as the program is handed it: its place, its numbers -/
inductive Req : Int → List Int → Sj11.Call → Prop
  | begins (w : Nat) : Req 0 [(w : Int)] (.begins w)
  | wrestler (a b : Nat) : Req 1 [(a : Int), (b : Int)] (.wrestler ⟨a, b⟩)
  | check (l : List Nat) (h : l.length ≤ 8) : Req 2 (nI l) (.check l)
  | best : Req 3 [] .best
  | fair : Req 4 [] .fair
  | plain : Req 5 [] .plain
theorem toNat_all {l : List Int} (h : ∀ z ∈ l, 0 ≤ z) : nI (l.map Int.toNat) = l := by
  unfold nI
  rw [List.map_map]
  conv => rhs; rw [← List.map_id l]
  refine List.map_congr_left fun z hz => ?_
  show ((z.toNat : Nat) : Int) = z
  exact Int.toNat_of_nonneg (h z hz)
theorem req_of {l : List Int} {q : Sj11.Call} (h : ∀ z ∈ l, 0 ≤ z) (e : Sj11Neutral.callOf l = some q) : ∃ p ns, l = p :: ns ∧ Req p ns q := by
  have hl := toNat_all h
  generalize l.map Int.toNat = m at hl
  subst hl
  have e2 : (nI m).map Int.toNat = m := by
    unfold nI
    rw [List.map_map]
    exact List.map_id _
  unfold Sj11Neutral.callOf at e
  rw [e2] at e
  split at e
  · cases e
    exact ⟨0, _, rfl, Req.begins _⟩
  · cases e
    exact ⟨1, _, rfl, Req.wrestler _ _⟩
  · rename_i r
    by_cases c : r.length ≤ 8
    · rw [if_pos c] at e
      cases e
      exact ⟨2, _, rfl, Req.check _ c⟩
    · rw [if_neg c] at e
      cases e
  · cases e
    exact ⟨3, _, rfl, Req.best⟩
  · cases e
    exact ⟨4, _, rfl, Req.fair⟩
  · cases e
    exact ⟨5, _, rfl, Req.plain⟩
  · cases e
/-- what a call answers, as numbers -/
def told (a : Ans) : List Int := a.v :: a.l
theorem neutral_step {s : Ranks} {c : List Int} {q : Sj11.Call} (e : Sj11Neutral.callOf c = some q) : Sj11Neutral.step s [c] = ((Sj11.step s q).1, told (Sj11.step s q).2) := by
  unfold Sj11Neutral.step
  show (match Sj11Neutral.callOf c with | none => (s, []) | some q => _) = _
  rw [e]
  rfl
theorem rows_len : ∀ (k : Nat) (r : List Int) (xs : List (List Int)) (u : List Int), PyFlat.rows k r = some (xs, u) → xs.length = k ∧ (k = 0 → u = r)
  | 0, r, xs, u, h => by
    unfold PyFlat.rows at h
    cases h
    exact ⟨rfl, fun _ => rfl⟩
  | k + 1, r, xs, u, h => by
    unfold PyFlat.rows at h
    cases e : PyFlat.row r with
    | none =>
      rw [e] at h
      cases h
    | some p =>
      obtain ⟨x, s⟩ := p
      rw [e] at h
      dsimp only at h
      cases e2 : PyFlat.rows k s with
      | none =>
        rw [e2] at h
        cases h
      | some p2 =>
        obtain ⟨ys, t⟩ := p2
        rw [e2] at h
        cases h
        have ih := rows_len k s ys _ e2
        refine ⟨by rw [List.length_cons, ih.1], fun z => nomatch z⟩
theorem row_is {r ns t : List Int} (h : PyFlat.row r = some (ns, t)) : r = (ns.length : Int) :: (ns ++ t) := by
  unfold PyFlat.row at h
  cases r with
  | nil => cases h
  | cons n r =>
    dsimp only at h
    by_cases c : 0 ≤ n ∧ n.toNat ≤ r.length
    · rw [if_pos c] at h
      cases h
      rw [List.take_append_drop, List.length_take]
      congr 1
      omega
    · rw [if_neg c] at h
      cases h
/-- no call has lists -/
theorem fits_flat {p : Int} {xs : List Int} {rows : List (List Int)} (h : PySj11.fits ((p :: xs) :: rows) = true) : rows = [] := by
  unfold PySj11.fits at h
  dsimp only at h
  have key : ∀ (a : List (Int × Int)) (m : Nat × Nat × Int × Int), PySj11.form p = some (a, m, [], (0, 0, 0, 0, 0, 0, 0)) → rows = [] := by
    intro a m e
    obtain ⟨m1, m2, lo, hi⟩ := m
    rw [e] at h
    dsimp only at h
    simp only [Bool.and_eq_true, decide_eq_true_eq] at h
    obtain ⟨⟨⟨_, h2⟩, _⟩, _⟩ := h
    rw [List.drop_zero, List.length_take] at h2
    have : rows.length = 0 := by
      have e0 : rows.length - ([] : List (Int × Int × Nat × Nat)).length = rows.length := rfl
      rw [e0] at h2
      omega
    exact List.eq_nil_of_length_eq_zero this
  by_cases h0 : p = 0
  · exact key _ _ (if_pos h0)
  by_cases h1 : p = 1
  · exact key _ _ ((if_neg h0).trans (if_pos h1))
  by_cases h2 : p = 2
  · exact key _ _ ((if_neg h0).trans ((if_neg h1).trans (if_pos h2)))
  by_cases h3 : p = 3
  · exact key _ _ ((if_neg h0).trans ((if_neg h1).trans ((if_neg h2).trans (if_pos h3))))
  by_cases h4 : p = 4
  · exact key _ _ ((if_neg h0).trans ((if_neg h1).trans ((if_neg h2).trans ((if_neg h3).trans (if_pos h4)))))
  by_cases h5 : p = 5
  · exact key _ _ ((if_neg h0).trans ((if_neg h1).trans ((if_neg h2).trans ((if_neg h3).trans ((if_neg h4).trans (if_pos h5))))))
  · have e : PySj11.form p = none := (if_neg h0).trans ((if_neg h1).trans ((if_neg h2).trans ((if_neg h3).trans ((if_neg h4).trans (if_neg h5)))))
    rw [e] at h
    cases h
/-- what the rest of a request is: well-formed calls, one behind another -/
inductive Line : Ranks → List Int → List Int → Prop
  | nil (s : Ranks) : Line s [] []
  | cons {s : Ranks} {p : Int} {ns t out : List Int} {q : Sj11.Call} (h : Req p ns q) (r : Line (Sj11.step s q).1 t out) :
      Line s (p :: (ns.length : Int) :: (ns ++ 0 :: t)) ((((told (Sj11.step s q).2).length : Nat) : Int) :: (told (Sj11.step s q).2 ++ out))
theorem line_of : ∀ (f : Nat) (s : Ranks) (l : List Int) (cs : List (List (List Int))), PyWide.calls f l = some cs → cs.all PySj11.fits = true → cs.all Sj11Neutral.asked1 = true →
    Line s l (PyFlat.told (PyFlat.played Sj11Neutral.step s cs))
  | f, s, [], cs, h, _, _ => by
    have e : cs = [] := by
      cases f with
      | zero =>
        unfold PyWide.calls at h
        exact (Option.some.inj h).symm
      | succ f =>
        unfold PyWide.calls at h
        exact (Option.some.inj h).symm
    rw [e]
    exact Line.nil s
  | 0, s, x :: l, cs, h, _, _ => by
    unfold PyWide.calls at h
    cases h
  | f + 1, s, p :: l, cs, h, hf, ha => by
    unfold PyWide.calls at h
    cases e : PyWide.call (p :: l) with
    | none =>
      rw [e] at h
      cases h
    | some y =>
      obtain ⟨c, t⟩ := y
      rw [e] at h
      dsimp only at h
      cases e2 : PyWide.calls f t with
      | none =>
        rw [e2] at h
        cases h
      | some cs' =>
        rw [e2] at h
        have ec : cs = c :: cs' := (Option.some.inj h).symm
        subst ec
        rw [List.all_cons, Bool.and_eq_true] at hf ha
        have ih := fun s => line_of f s t cs' e2 hf.2 ha.2
        unfold PyWide.call at e
        dsimp only at e
        cases e3 : PyFlat.row l with
        | none =>
          rw [e3] at e
          cases e
        | some z =>
          obtain ⟨ns, r2⟩ := z
          rw [e3] at e
          have el := row_is e3
          cases r2 with
          | nil => cases e
          | cons k u =>
            dsimp only at e
            by_cases ck : 0 ≤ k
            · rw [if_pos ck] at e
              cases e4 : PyFlat.rows k.toNat u with
              | none =>
                rw [e4] at e
                cases e
              | some v =>
                obtain ⟨xs, t'⟩ := v
                rw [e4] at e
                dsimp only at e
                have e5 := Option.some.inj e
                have e6 : (p :: ns) :: xs = c := congrArg Prod.fst e5
                have e7 : t' = t := congrArg Prod.snd e5
                subst e6 e7
                have hx : xs = [] := fits_flat hf.1
                have hr := rows_len _ _ _ _ e4
                rw [hx] at hr
                have hk : k.toNat = 0 := hr.1.symm
                have hu : t' = u := hr.2 hk
                have k0 : k = 0 := by omega
                subst hx hu k0
                have hc : Sj11Neutral.asked1 [p :: ns] = true := ha.1
                unfold Sj11Neutral.asked1 at hc
                rw [Bool.and_eq_true, Bool.and_eq_true] at hc
                obtain ⟨_, hn, hs⟩ := hc
                have hs : (Sj11Neutral.callOf (p :: ns)).isSome = true := hs
                have hn : (p :: ns).all (fun z => Sj11Neutral.natural z 32) = true := hn
                obtain ⟨q, hq⟩ := Option.isSome_iff_exists.mp hs
                have nn : ∀ z ∈ p :: ns, 0 ≤ z := fun z hz => by
                  have := List.all_eq_true.mp hn z hz
                  unfold Sj11Neutral.natural at this
                  rw [Bool.and_eq_true, decide_eq_true_iff] at this
                  exact this.1
                obtain ⟨p', ns', ep, R⟩ := req_of nn hq
                cases ep
                rw [el]
                have st := neutral_step (s := s) hq
                show Line s _ (PyFlat.told ((Sj11Neutral.step s [p :: ns]).2 :: PyFlat.played Sj11Neutral.step (Sj11Neutral.step s [p :: ns]).1 cs'))
                rw [st]
                exact Line.cons R (ih _)
            · rw [if_neg ck] at e
              cases e
/-- every request that may be handed in is a line; its answers are short -/
theorem asked_line {l : List Int} (h : PySj11.answers_asked l = true) : Line Sj11.init l (PySj11.answers l) ∧ (PySj11.answers l).length ≤ 10000000 := by
  unfold PySj11.answers_asked at h
  cases e : PySj11.calls l with
  | none =>
    rw [e] at h
    cases h
  | some cs =>
    rw [e] at h
    dsimp only at h
    simp only [Bool.and_eq_true] at h
    obtain ⟨⟨⟨⟨h1, h2⟩, h3⟩, h4⟩, h5⟩ := h
    refine ⟨?_, by unfold PyFlat.short at h5; exact of_decide_eq_true h5⟩
    unfold Sj11Neutral.asked at h4
    rw [Bool.and_eq_true] at h4
    have ea : PySj11.answers l = PyFlat.told (PyFlat.played Sj11Neutral.step Sj11Neutral.start cs) := by
      unfold PySj11.answers
      rw [e]
    rw [ea]
    exact line_of l.length Sj11.init l cs e h2 h4.1
end Nr
namespace Nr
open PySem PySem.Spec PyProof.Rows L2
/-! ## The text -/
def topS (i : Nat) : Stmt := PySem.Challenge.pw_newranks_s01_answers.main.body.getD i (.Pass ⟨0, 0, 0, 0⟩)
abbrev sWInit : Stmt := inClass (topS 2) 0
abbrev sMay : Stmt := inClass (topS 2) 1
abbrev sRInit : Stmt := inClass (topS 3) 0
abbrev sEarned : Stmt := inClass (topS 3) 1
abbrev sOffs : Stmt := inClass (topS 3) 2
abbrev sFirst : Stmt := inClass (topS 3) 3
abbrev sAll : Stmt := inClass (topS 3) 4
abbrev sBy : Stmt := inClass (topS 3) 5
abbrev sXInit : Stmt := inClass (topS 8) 0
abbrev sHInit : Stmt := inClass (topS 9) 0
abbrev sNeed : Stmt := topS 10
abbrev sMost : Stmt := topS 11
abbrev sBegins : Stmt := topS 12
abbrev sWrestler : Stmt := topS 13
abbrev sCheck : Stmt := topS 14
abbrev sLeast : Stmt := topS 15
abbrev sBest : Stmt := topS 16
abbrev sFair : Stmt := topS 17
abbrev sPlain : Stmt := topS 18
abbrev sAnswered : Stmt := topS 20
abbrev sAnswer : Stmt := topS 21
abbrev sBehind : Stmt := topS 22
abbrev sAnswers : Stmt := topS 23
/-! ## What the top has written -/
structure Txt (K : PySem.W.Frag) (mg : Str → Option Value) (CW CR CX CH fX : Addr) : Prop where
  clW : Cls K CW
  clR : Cls K CR
  clH : Cls K CH
  nWon : NoAttr K CW "won"
  nLost : NoAttr K CW "lost"
  nWorth : NoAttr K CR "worth"
  nWr : NoAttr K CR "wrestlers"
  nRk : NoAttr K CH "ranks"
  gW : mg "Wrestler" = some (.ref CW)
  gR : mg "RankList" = some (.ref CR)
  gX : mg "Refused" = some (.ref CX)
  gH : mg "Holder" = some (.ref CH)
  cTen : ∃ t, mg "TENTHS" = some (.int 10 t)
  cWorth : ∃ t, mg "MOST_WORTH" = some (.int 30 t)
  cBouts : ∃ t, mg "MOST_BOUTS" = some (.int 15 t)
  cMost : ∃ t, mg "MOST_WRESTLERS" = some (.int 6 t)
  ox : OexC K CX
  nNum : PySem.W.findIn K (.ref CX) "number" = some none
  nMore : PySem.W.findIn K (.ref CX) "more" = some none
  iX : PySem.W.findIn K (.ref CX) "__init__" = some (some (.ref fX))
  tX : PySem.W.typeIn K (.ref fX) = some (.type "function")
  eX : PySem.W.exmOne K (.ref CX) (.ref CX) = some true
  xga : PySem.W.findIn K (.ref CX) "__getattribute__" = some (some (.builtin "BaseException.__getattribute__"))
  xgg : PySem.W.findIn K (.ref CX) "__getattr__" = some none
  xhd : PySem.W.hasDictIn K CX = true
  len : mg "len" = none
  range : mg "range" = none
  sorted : mg "sorted" = none
  enumerate : mg "enumerate" = none
  abs : mg "abs" = none
  max : mg "max" = none
  min : mg "min" = none
  sum : mg "sum" = none
  int : mg "int" = none
  list : mg "list" = none
/-! ## The heap -/
def nV (l : List Nat) : List V := l.map fun n : Nat => V.int (n : Int)
theorem nV_nI (l : List Nat) : (nI l).map V.int = nV l := by
  unfold nI nV
  rw [List.map_map]
  rfl
theorem nV_len (l : List Nat) : (nV l).length = l.length := List.length_map _
theorem nV_get {l : List Nat} {i : Nat} (h : i < l.length) : (nV l)[i]? = some (.int ((l.getD i 0 : Nat) : Int)) := by
  unfold nV
  rw [List.getElem?_map, List.getElem?_eq_getElem h, List.getD_eq_getElem?_getD, List.getElem?_eq_getElem h]
  rfl
theorem nV_flat (l : List Nat) : (nV l).all flatV = true := by
  unfold nV
  rw [List.all_map]
  exact List.all_eq_true.mpr fun x _ => rfl
theorem nV_in (x : Nat) (l : List Nat) : inV (.int (x : Int)) (nV l) = l.contains x := by
  unfold inV nV
  rw [List.any_map, List.contains_eq_any_beq]
  congr 1
  funext y
  show ((y : Int) == (x : Int)) = (x == y)
  rw [Bool.eq_iff_iff, beq_iff_eq, beq_iff_eq]
  omega
theorem small {n : Nat} (h : n ≤ 1000000) : n < sizeLine := Nat.lt_of_le_of_lt h (by decide)
theorem small' {n : Nat} (h : n ≤ 1000000) : n ≤ sizeLine := Nat.le_of_lt (small h)
theorem same_upd {H : Hp} {p : Addr} {o : HO} (h : H p = none) : Same H (upd H p o) := fun b x e => by
  rw [upd_ne (ne_of_none e h)]
  exact e
theorem same_upd2 {H H' : Hp} {p : Addr} {o : HO} (s : Same H H') (h : H p = none) : Same H (upd H' p o) := fun b x e => by
  rw [upd_ne (ne_of_none e h)]
  exact s b x e
theorem lk_here {k : Str} {v : V} {r : List (Str × V)} : List.lookup k ((k, v) :: r) = some v := by
  have e : (k == k) = true := beq_self_eq_true k
  simp only [List.lookup, e]
theorem lk_past {k g : Str} {v : V} {r : List (Str × V)} (h : (k == g) = false) : List.lookup k ((g, v) :: r) = List.lookup k r := by
  simp only [List.lookup, h]
theorem put_here {f : Str} {v x : V} {r : List (Str × V)} : putF f v ((f, x) :: r) = (f, v) :: r := if_pos rfl
theorem put_past {f g : Str} {v x : V} {r : List (Str × V)} (h : ¬ g = f) : putF f v ((g, x) :: r) = (g, x) :: putF f v r := if_neg h
/-- a wrestler's fields -/
def wF (w : Sj11.Wrestler) : List (Str × V) := [("won", .int w.wins), ("lost", .int w.losses)]
theorem wF_won (w : Sj11.Wrestler) : (wF w).lookup ("won" : Str) = some (.int w.wins) := lk_here
theorem wF_lost (w : Sj11.Wrestler) : (wF w).lookup ("lost" : Str) = some (.int w.losses) := (lk_past (by decide +kernel)).trans lk_here
theorem wF_may (w : Sj11.Wrestler) : (wF w).lookup ("may_have" : Str) = none := (lk_past (by decide +kernel)).trans ((lk_past (by decide +kernel)).trans rfl)
def WAt (CW : Addr) (H : Hp) (a : Addr) (w : Sj11.Wrestler) : Prop := ∃ dx, H a = some (.ins CW dx (wF w))
/-- a list's fields -/
def rF (r : Sj11.Ranks) (l : Addr) : List (Str × V) := [("worth", .int r.worth), ("wrestlers", .ref l)]
theorem rF_worth (r : Sj11.Ranks) (l : Addr) : (rF r l).lookup ("worth" : Str) = some (.int r.worth) := lk_here
theorem rF_wr (r : Sj11.Ranks) (l : Addr) : (rF r l).lookup ("wrestlers" : Str) = some (.ref l) := (lk_past (by decide +kernel)).trans lk_here
theorem rF_no (r : Sj11.Ranks) (l : Addr) (f : Str) (h1 : (f == ("worth" : Str)) = false) (h2 : (f == ("wrestlers" : Str)) = false) : (rF r l).lookup f = none := (lk_past h1).trans ((lk_past h2).trans rfl)
/-- at a a list of ranks: its wrestlers' list at l -/
structure RAt (CW CR : Addr) (H : Hp) (a l : Addr) (r : Sj11.Ranks) : Prop where
  obj : ∃ dx, H a = some (.ins CR dx (rF r l))
  lst : ∃ ws : List Addr, H l = some (.lst (ws.map V.ref)) ∧ ws.length = r.count ∧ ∀ i, i < r.count → ∃ b, ws[i]? = some b ∧ WAt CW H b (r.of_ i)
theorem RAt.same {CW CR : Addr} {H H' : Hp} {a l : Addr} {r : Sj11.Ranks} (h : RAt CW CR H a l r) (s : Same H H') : RAt CW CR H' a l r := by
  obtain ⟨⟨dx, e⟩, ws, e2, hl, hw⟩ := h
  refine ⟨⟨dx, s _ _ e⟩, ws, s _ _ e2, hl, fun i hi => ?_⟩
  obtain ⟨b, eb, d, w⟩ := hw i hi
  exact ⟨b, eb, d, s _ _ w⟩
/-- the holder at h, its list at a, the wrestlers' list at l -/
structure HAt (CW CR CH : Addr) (H : Hp) (h l : Addr) (r : Sj11.Ranks) : Prop where
  ex : ∃ a dx, H h = some (.ins CH dx [("ranks", .ref a)]) ∧ RAt CW CR H a l r ∧ a ≠ h
theorem HAt.same {CW CR CH : Addr} {H H' : Hp} {h l : Addr} {r : Sj11.Ranks} (x : HAt CW CR CH H h l r) (s : Same H H') : HAt CW CR CH H' h l r := by
  obtain ⟨a, dx, e, q, n⟩ := x
  exact ⟨a, dx, s _ _ e, q.same s, n⟩
/-! ## Wrestler -/
section
variable {P : Program} {w : World} {K : PySem.W.Frag} {mg : Str → Option Value} {base : Heap} {CW CR CX CH fX : Addr}
theorem scWInit : FnScope ["self", "won", "lost"] ["self", "won", "lost"] (defScope sWInit) := ⟨rfl, rfl, rfl, by decide +kernel, rfl, by decide +kernel, by decide +kernel⟩
def spWInit (CW : Addr) : Sp := fun vs H Q _ => ∃ (p dx : Addr) (x : Sj11.Wrestler), vs = [.ref p, .int x.wins, .int x.losses] ∧ H p = some (.ins CW dx []) ∧ Q .non (upd H p (.ins CW dx (wF x)))
theorem ok_winit {f : Addr} {fd : FuncData} (F : Fun K "__init__" "Wrestler.__init__" sWInit f fd) (T : Txt K mg CW CR CX CH fX) : FnOk P w K mg base CX0 1 f fd ["self", "won", "lost"] (spWInit CW) := by
  refine F.ok scWInit (fun vs H Q E h => ?_) (fun cdv A outer s H vs Q E hr h => ?_)
  · obtain ⟨p, dx, x, rfl, _⟩ := h
    rfl
  · obtain ⟨p, dx, x, rfl, hp, k⟩ := h
    refine ⟨_, pss_cons (ps_fld (pv 0) (pv 1) rfl) (pss_one (ps_fld (pv 0) (pv 2) rfl)), ?_⟩
    refine ⟨_, rfl, _, rfl, p, CW, dx, [], rfl, hp, T.clW, T.nWon, (by show 0 < 1000; decide), ?_⟩
    refine ⟨_, rfl, _, rfl, p, CW, dx, _, rfl, upd_same, T.clW, T.nLost, (by show 1 < 1000; decide), ?_⟩
    show Q .non _
    rw [upd_upd]
    have e : putF "lost" (.int x.losses) (putF "won" (.int x.wins) []) = wF x := (put_past (by decide +kernel)).trans rfl
    rw [e]
    exact k
theorem scMay : FnScope ["self", "old", "new"] ["self", "old", "new"] (defScope sMay) := ⟨rfl, rfl, rfl, by decide +kernel, rfl, by decide +kernel, by decide +kernel⟩
def spMay (CW : Addr) : Sp := fun vs H Q _ => ∃ (a : Addr) (x : Sj11.Wrestler) (o n : Nat), vs = [.ref a, .int (o : Int), .int (n : Int)] ∧ WAt CW H a x ∧ Q (.bl (mayHave x o n)) H
theorem ok_may {f : Addr} {fd : FuncData} (F : Fun K "may_have" "Wrestler.may_have" sMay f fd) (T : Txt K mg CW CR CX CH fX) : FnOk P w K mg base CX0 1 f fd ["self", "old", "new"] (spMay CW) := by
  refine F.ok scMay (fun vs H Q E h => ?_) (fun cdv A outer s H vs Q E hr h => ?_)
  · obtain ⟨a, x, o, n, rfl, _⟩ := h
    rfl
  · obtain ⟨a, x, o, n, rfl, ⟨dx, h1⟩, k⟩ := h
    refine ⟨_, pss_cons (ps_if (pt_cmpR op_gt (pe_fld (pv 0) rfl) (pe_fld (pv 0) rfl) (nomark _)) (pss_one (ps_ret (pe_cmpR op_le (pv 2) (pv 1) (nomark _)))) pss_nil)
      (pss_one (ps_ret (pe_or (pe_cmpR op_eq (pe_fld (pv 0) rfl) (pe_fld (pv 0) rfl) (nomark _)) (pe_one (pe_cmpR op_ge (pv 2) (pv 1) (nomark _)))))), ?_⟩
    refine ⟨_, rfl, a, CW, dx, _, _, rfl, h1, T.clW, T.nWon, wF_won x, _, rfl, a, CW, dx, _, _, rfl, h1, T.clW, T.nLost, wF_lost x, _, _, rfl, rfl, _, rfl, ?_⟩
    refine ite2 (fun c => ?_) (fun c => ?_)
    · have c' : x.losses < x.wins := by have := of_decide_eq_true c; omega
      refine ⟨_, rfl, _, rfl, _, _, rfl, rfl, ?_⟩
      show Q _ H
      have e : mayHave x o n = decide ((n : Int) ≤ (o : Int)) := by
        unfold mayHave
        rw [if_pos c']
        exact decide_eq_decide.mpr (by omega)
      rw [e] at k
      exact k
    · have c' : ¬ x.losses < x.wins := fun z => c (decide_eq_true (by omega))
      refine ⟨_, rfl, a, CW, dx, _, _, rfl, h1, T.clW, T.nWon, wF_won x, _, rfl, a, CW, dx, _, _, rfl, h1, T.clW, T.nLost, wF_lost x, rfl, _, rfl, ?_⟩
      have e : mayHave x o n = (decide (x.wins = x.losses) || decide (o ≤ n)) := by
        unfold mayHave
        rw [if_neg c']
      rw [e] at k
      have e1 : decide (V.int (x.wins : Int) = V.int (x.losses : Int)) = decide (x.wins = x.losses) := decide_eq_decide.mpr ⟨fun z => by injection z with z; omega, fun z => by rw [z]⟩
      rw [e1]
      refine ite2 (fun c2 => ?_) (fun c2 => ?_)
      · rw [c2] at k
        exact k
      · have c3 : decide (x.wins = x.losses) = false := by simpa using c2
        rw [c3, Bool.false_or] at k
        refine ⟨_, rfl, _, rfl, _, _, rfl, rfl, ?_⟩
        have e2 : decide (o ≤ n) = decide ((o : Int) ≤ (n : Int)) := decide_eq_decide.mpr (by omega)
        rw [e2] at k
        exact k
end
end Nr
namespace Nr
open PySem PySem.Spec PyProof.Rows L2
section
variable {P : Program} {w : World} {K : PySem.W.Frag} {mg : Str → Option Value} {base : Heap} {CW CR CX CH fX : Addr}
theorem relI {i : Int} {t : Tok} : RelV (.int i) (.int i t) := ⟨t, rfl⟩
theorem tyes_of {σ : L2.St} {H : Hp} {A B : Hp → Prop} (h : A H) : tYes σ H (fun b H3 => if b = true then A H3 else B H3) := iteT (A := A H) (B := B H) h
theorem offs_len (r : Sj11.Ranks) (xs : List Nat) : (offs r xs).length = r.count := by
  unfold offs
  rw [List.length_map, List.length_range]
theorem offs_get {r : Sj11.Ranks} {xs : List Nat} {i : Nat} (h : i < r.count) : (offs r xs)[i]? = some (r.off xs i) := by
  unfold offs
  rw [List.getElem?_map, List.getElem?_range h]
  rfl
theorem nV_take_succ {l : List Nat} {i x : Nat} (h : l[i]? = some x) : nV (l.take (i + 1)) = nV (l.take i) ++ [.int (x : Int)] := by
  unfold nV
  rw [List.take_add_one, h, List.map_append]
  rfl
theorem scRInit : FnScope ["self", "worth"] ["self", "worth"] (defScope sRInit) := ⟨rfl, rfl, rfl, by decide +kernel, rfl, by decide +kernel, by decide +kernel⟩
def spRInit (CR : Addr) : Sp := fun vs H Q _ => ∃ (p dx : Addr) (n : Nat), vs = [.ref p, .int (n : Int)] ∧ H p = some (.ins CR dx []) ∧
  ∀ l, H l = none → Q .non (upd (upd H l (.lst [])) p (.ins CR dx (rF ⟨n, []⟩ l)))
theorem ok_rinit {f : Addr} {fd : FuncData} (F : Fun K "__init__" "RankList.__init__" sRInit f fd) (T : Txt K mg CW CR CX CH fX) : FnOk P w K mg base CX0 1 f fd ["self", "worth"] (spRInit CR) := by
  refine F.ok scRInit (fun vs H Q E h => ?_) (fun cdv A outer s H vs Q E hr h => ?_)
  · obtain ⟨p, dx, x, rfl, _⟩ := h
    rfl
  · obtain ⟨p, dx, n, rfl, hp, k⟩ := h
    refine ⟨_, pss_cons (ps_fld (pv 0) (pv 1) rfl) (pss_one (ps_fld (pv 0) (pe_lst pa_nil) rfl)), ?_⟩
    refine ⟨_, rfl, _, rfl, p, CR, dx, [], rfl, hp, T.clR, T.nWorth, (by show 0 < 1000; decide), ?_⟩
    refine ⟨Nat.zero_le _, fun l nl => ?_⟩
    have hl : H l = none := by
      by_cases e : l = p
      · rw [e, upd_same] at nl
        cases nl
      · rw [upd_ne e] at nl
        exact nl
    have lp : p ≠ l := ne_of_none hp hl
    refine ⟨_, rfl, p, CR, dx, _, rfl, by rw [upd_ne lp, upd_same], T.clR, T.nWr, (by show 1 < 1000; decide), ?_⟩
    show Q .non _
    have e : putF "wrestlers" (.ref l) (putF "worth" (.int (n : Int)) []) = rF ⟨n, []⟩ l := (put_past (by decide +kernel)).trans rfl
    rw [e]
    have eh : upd (upd (upd H p (.ins CR dx (putF "worth" (.int (n : Int)) []))) l (.lst [])) p (.ins CR dx (rF ⟨n, []⟩ l)) = upd (upd H l (.lst [])) p (.ins CR dx (rF ⟨n, []⟩ l)) := by
      funext b
      by_cases h1 : b = p
      · rw [h1, upd_same, upd_same]
      · rw [upd_ne h1, upd_ne h1]
        by_cases h2 : b = l
        · rw [h2, upd_same, upd_same]
        · rw [upd_ne h2, upd_ne h2, upd_ne h1]
    rw [eh]
    exact k l hl
theorem scEarned : FnScope ["self", "rank", "wrestler"] ["self", "rank"] (defScope sEarned) := ⟨rfl, rfl, rfl, by decide +kernel, rfl, by decide +kernel, by decide +kernel⟩
def spEarned (CW CR : Addr) : Sp := fun vs H Q _ => ∃ (a l : Addr) (r : Sj11.Ranks) (i : Nat), vs = [.ref a, .int (i : Int)] ∧ RAt CW CR H a l r ∧ Fine r ∧ i < r.count ∧ Q (.int (r.earned i)) H
theorem ok_earned {f : Addr} {fd : FuncData} (F : Fun K "earned" "RankList.earned" sEarned f fd) (T : Txt K mg CW CR CX CH fX) : FnOk P w K mg base CX0 1 f fd ["self", "rank"] (spEarned CW CR) := by
  refine F.ok scEarned (fun vs H Q E h => ?_) (fun cdv A outer s H vs Q E hr h => ?_)
  · obtain ⟨a, l, r, i, rfl, _⟩ := h
    rfl
  · obtain ⟨a, l, r, i, rfl, ⟨⟨dx, ho⟩, ws, hl, hlen, hw⟩, fine, hi, k⟩ := h
    obtain ⟨t, ht⟩ := T.cTen
    refine ⟨_, pss_cons (ps_set (i := 2) scEarned.nd rfl (Or.inl rfl) (pe_ix ix_list (pe_fld (pv 0) rfl) (pv 1) (fun _ _ => rfl)))
      (pss_one (ps_ret (pe_op op_sub (pe_op op_mul (pe_glob rfl ht relI) (pv 1)) (pe_op op_mul (pe_fld (pv 0) rfl) (pe_op op_sub (pe_fld (pv 2) rfl) (pe_fld (pv 2) rfl)))))), ?_⟩
    obtain ⟨b, hb, d, hW⟩ := hw i hi
    have hb' : (ws.map V.ref)[i]? = some (.ref b) := by
      rw [List.getElem?_map, hb]
      rfl
    refine ⟨_, rfl, a, CR, dx, _, _, rfl, ho, T.clR, T.nWr, rF_wr r l, _, rfl, l, _, _, _, rfl, rfl, SqL.of hl, atI_nat hb', ?_⟩
    refine ⟨_, rfl, _, _, rfl, rfl, .inl ⟨by decide, by decide⟩, _, rfl, a, CR, dx, _, _, rfl, ho, T.clR, T.nWorth, rF_worth r l, ?_⟩
    refine ⟨_, rfl, b, CW, d, _, _, rfl, hW, T.clW, T.nWon, wF_won _, _, rfl, b, CW, d, _, _, rfl, hW, T.clW, T.nLost, wF_lost _, _, _, rfl, rfl, ?_⟩
    have fw := fine.worth
    refine ⟨_, _, rfl, rfl, .inl ⟨by omega, by omega⟩, _, _, rfl, rfl, ?_⟩
    exact k
theorem scOffs : FnScope ["self", "new", "rank"] ["self", "new"] (defScope sOffs) := ⟨rfl, rfl, rfl, by decide +kernel, rfl, by decide +kernel, by decide +kernel⟩
def spOffs (K : PySem.W.Frag) (CW CR : Addr) : Sp := fun vs H Q _ => ∃ (a l n : Addr) (r : Sj11.Ranks) (xs : List Nat), vs = [.ref a, .ref n] ∧ RAt CW CR H a l r ∧ Fine r ∧ SqL K H n (nV xs) ∧ xs.length = r.count ∧
  ∀ H' p, Same H H' → H p = none → H' p = some (.lst (nV (offs r xs))) → Q (.ref p) H'
theorem ok_offs {f fE : Addr} {fd fdE : FuncData} (F : Fun K "offs" "RankList.offs" sOffs f fd) (T : Txt K mg CW CR CX CH fX) (FE : Fun K "earned" "RankList.earned" sEarned fE fdE) (bE : Binds K fdE ["self", "rank"] []) (mE : Meth K CR "earned" fE) :
    FnOk P w K mg base CX0 2 f fd ["self", "new"] (spOffs K CW CR) := by
  have GE : FnOk P w K mg base CX0 1 fE fdE ["self", "rank"] (spEarned CW CR) := ok_earned FE T
  refine F.ok scOffs (fun vs H Q E h => ?_) (fun cdv A outer s H vs Q E hr h => ?_)
  · obtain ⟨a, l, n, r, xs, rfl, _⟩ := h
    rfl
  · obtain ⟨a, l, n, r, xs, rfl, hR, fine, hn, hx, k⟩ := h
    obtain ⟨t, ht⟩ := T.cTen
    refine ⟨_, pss_one (ps_ret (pe_lc (own := [("rank", 2)]) (g := gName 2) (tt := tYes) rfl scOffs.nd (pi_range1 rfl T.range (pa_cons (pe_callB call_len_seq (by rfl) T.len PySem.boot_len (pa_cons (pv 1) pa_nil)) pa_nil))
      (blkOk_by (N := ["self", "new", "rank"]) (sc := defScope sOffs) (by decide +kernel)) (fun _ _ _ _ _ => pg_name (i := 2) scOffs.nd rfl (Or.inl rfl)) (fun _ _ _ _ _ => pts_nil)
      (fun _ _ _ _ _ => pe_callB call_abs (by rfl) T.abs (by decide +kernel) (pa_cons (pe_op op_sub (pe_op op_mul (pe_glob rfl ht relI) (pe_ix (r := rIxL K) ix_list (pv 1) (pv 2) (fun _ _ => rfl)))
        (pe_meth (pv 0) T.clR mE GE hr bE .nil pass0 (pa_cons (pv 2) pa_nil))) pa_nil)))), ?_⟩
    refine ⟨_, rfl, n, nV xs, rfl, .inl hn, ?_⟩
    rw [nV_len, hx]
    have fc := fine.count
    refine ⟨_, rfl, by omega, by omega, fun D hD => ?_⟩
    refine lc_range (lo := 0) (n := (r.count : Int).toNat) (fun i H' => Same H H' ∧ H' D = some (.lst (nV ((offs r xs).take i)))) ⟨same_upd hD, by rw [upd_same]; rfl⟩ (fun i H' hi hP => ?_) (fun H' hP => ?_)
    · obtain ⟨sm, eD⟩ := hP
      rw [Int.zero_add]
      have hi' : i < r.count := by omega
      refine ⟨rfl, ?_⟩
      refine tyes_of ?_
      obtain ⟨dx, ho⟩ := (hR.same sm).obj
      refine ⟨_, rfl, _, rfl, n, _, _, _, rfl, rfl, sm.seq hn, atI_nat (nV_get (by omega)), ?_⟩
      refine ⟨_, _, rfl, rfl, .inl ⟨by decide, by decide⟩, ?_⟩
      refine ⟨_, rfl, a, dx, _, rfl, ho, rF_no r l _ (by decide +kernel) (by decide +kernel), _, rfl, a, l, r, i, rfl, hR.same sm, fine, hi', ?_⟩
      refine ⟨_, _, rfl, rfl, _, rfl, _, eD, ?_, ?_, ?_⟩
      · rw [nV_len, List.length_take]
        exact small (by omega)
      · exact fun b o e => by
          have nb : b ≠ D := ne_of_none e hD
          rw [upd_ne nb]
          exact sm _ _ e
      · rw [upd_same, off_int r xs i _ rfl, nV_take_succ (offs_get hi')]
    · obtain ⟨sm, eD⟩ := hP
      refine k H' D sm hD ?_
      rw [eD]
      have : (offs r xs).take (r.count : Int).toNat = offs r xs := List.take_of_length_le (by
        rw [offs_len]
        omega)
      rw [this]
end
end Nr
namespace Nr
open PySem PySem.Spec PyProof.Rows L2
section
variable {P : Program} {w : World} {K : PySem.W.Frag} {mg : Str → Option Value} {base : Heap} {CW CR CX CH fX : Addr}
/-! ### first_wrong -/
def wV : Option Nat → V
  | none => .non
  | some i => .int (i : Int)
theorem scFirst : FnScope ["self", "new", "rank"] ["self", "new"] (defScope sFirst) := ⟨rfl, rfl, rfl, by decide +kernel, rfl, by decide +kernel, by decide +kernel⟩
def spFirst (K : PySem.W.Frag) (CW CR : Addr) : Sp := fun vs H Q _ => ∃ (a l n : Addr) (r : Sj11.Ranks) (xs : List Nat), vs = [.ref a, .ref n] ∧ RAt CW CR H a l r ∧ Fine r ∧ SqL K H n (nV xs) ∧ xs.length = r.count ∧ Q (wV (r.wrong xs)) H
theorem ok_first {f fM : Addr} {fd fdM : FuncData} (F : Fun K "first_wrong" "RankList.first_wrong" sFirst f fd) (T : Txt K mg CW CR CX CH fX) (FM : Fun K "may_have" "Wrestler.may_have" sMay fM fdM) (bM : Binds K fdM ["self", "old", "new"] []) (mM : Meth K CW "may_have" fM) :
    FnOk P w K mg base CX0 2 f fd ["self", "new"] (spFirst K CW CR) := by
  have GM : FnOk P w K mg base CX0 1 fM fdM ["self", "old", "new"] (spMay CW) := ok_may FM T
  refine F.ok scFirst (fun vs H Q E h => ?_) (fun cdv A outer s H vs Q E hr h => ?_)
  · obtain ⟨a, l, n, r, xs, rfl, _⟩ := h
    rfl
  · obtain ⟨a, l, n, r, xs, rfl, hR, fine, hn, hx, k⟩ := h
    refine ⟨_, pss_cons (ps_for PassesOwn.never rfl (pi_range1 rfl T.range (pa_cons (pe_callB call_len_seq (by rfl) T.len PySem.boot_len (pa_cons (pv 1) pa_nil)) pa_nil)) (pg_name (i := 2) scFirst.nd rfl (Or.inl rfl))
        (pss_one (ps_if (pt_not (pt_val (pe_meth (pe_ix ix_list (pe_fld (pv 0) rfl) (pv 2) (fun _ _ => rfl)) T.clW mM GM hr bM .nil pass0 (pa_cons (pv 2) (pa_cons (pe_ix ix_list (pv 1) (pv 2) (fun _ _ => rfl)) pa_nil)))))
          (pss_one (ps_ret (pv 2))) pss_nil)))
      (pss_one (ps_ret pe_non)), ?_⟩
    refine ⟨_, rfl, n, nV xs, rfl, .inl hn, ?_⟩
    rw [nV_len, hx]
    have fc := fine.count
    refine ⟨_, rfl, by omega, by omega, ?_⟩
    refine for_range (lo := 0) (n := (r.count : Int).toNat) (fun i σ H' => H' = H ∧ (∃ v, σ = [some (.ref a), some (.ref n), v]) ∧ ∀ j, j < i → okAt r xs j = true) ⟨rfl, ⟨none, rfl⟩, fun j hj => absurd hj (Nat.not_lt_zero _)⟩ ?_ ?_
    · rintro i σ H' hi ⟨rfl, ⟨v, rfl⟩, hok⟩
      rw [Int.zero_add]
      have hi' : i < r.count := by omega
      obtain ⟨⟨dx, ho⟩, ws, hl, hlen, hw⟩ := id hR
      obtain ⟨b, hb, d, hW⟩ := hw i hi'
      have hb' : (ws.map V.ref)[i]? = some (.ref b) := by
        rw [List.getElem?_map, hb]
        rfl
      refine ⟨_, rfl, a, CR, dx, _, _, rfl, ho, T.clR, T.nWr, rF_wr r l, _, rfl, l, _, _, _, rfl, rfl, SqL.of hl, atI_nat hb', ?_⟩
      refine ⟨b, d, _, rfl, hW, wF_may _, _, rfl, _, rfl, _, rfl, n, _, _, _, rfl, rfl, hn, atI_nat (nV_get (by omega)), ?_⟩
      refine ⟨b, r.of_ i, i, xs.getD i 0, rfl, ⟨d, hW⟩, _, rfl, ?_⟩
      show ite ((!okAt r xs i) = true) _ _
      refine ite2 (fun c => ?_) (fun c => ?_)
      · have c' : okAt r xs i = false := by simpa using c
        refine ⟨_, rfl, ?_⟩
        have e := wrong_some hi' hok c'
        rw [e] at k
        exact k
      · have c' : okAt r xs i = true := by simpa using c
        refine ⟨rfl, ⟨_, rfl⟩, fun j hj => ?_⟩
        by_cases e : j = i
        · rw [e]
          exact c'
        · exact hok j (by omega)
    · rintro σ H' ⟨rfl, ⟨v, rfl⟩, hok⟩
      have e := wrong_none (r := r) (l := xs) fun i hi => hok i (by omega)
      rw [e] at k
      exact k
end
end Nr
namespace Nr
open PySem PySem.Spec PyProof.Rows L2
/-- at p a list of lists -/
structure LsIn (H : Hp) (p : Addr) (as : List Addr) (L : List (List Nat)) : Prop where
  at_ : H p = some (.lst (as.map V.ref))
  len : as.length = L.length
  it : ∀ (i : Nat) (l : List Nat), L[i]? = some l → ∃ b, as[i]? = some b ∧ b ≠ p ∧ H b = some (.lst (nV l))
theorem LsIn.same {H H' : Hp} {p : Addr} {as : List Addr} {L : List (List Nat)} (h : LsIn H p as L) (s : Same H H') : LsIn H' p as L := by
  refine ⟨s _ _ h.at_, h.len, fun i l e => ?_⟩
  obtain ⟨b, e1, e2, e3⟩ := h.it i l e
  exact ⟨b, e1, e2, s _ _ e3⟩
theorem LsIn.push {H : Hp} {p c : Addr} {as : List Addr} {L : List (List Nat)} {x : List Nat} (h : LsIn H p as L) (hc : H c = some (.lst (nV x))) (ne : c ≠ p) : LsIn (upd H p (.lst (as.map V.ref ++ [.ref c]))) p (as ++ [c]) (L ++ [x]) := by
  refine ⟨by rw [upd_same, List.map_append]; rfl, by rw [List.length_append, List.length_append, h.len]; rfl, fun i l e => ?_⟩
  by_cases hi : i < L.length
  · rw [List.getElem?_append_left hi] at e
    obtain ⟨b, e1, e2, e3⟩ := h.it i l e
    refine ⟨b, by rw [List.getElem?_append_left (by rw [h.len]; exact hi)]; exact e1, e2, by rw [upd_ne e2]; exact e3⟩
  · rw [List.getElem?_append_right (by omega)] at e
    have h0 : i - L.length = 0 := by
      obtain ⟨q, _⟩ := List.getElem?_eq_some_iff.mp e
      rw [List.length_singleton] at q
      omega
    rw [h0] at e
    have e' : x = l := Option.some.inj e
    subst e'
    refine ⟨c, ?_, ne, by rw [upd_ne ne]; exact hc⟩
    rw [List.getElem?_append_right (by rw [h.len]; omega), h.len, h0]
    rfl
theorem flatMap_longer_len (r : Sj11.Ranks) (k : Nat) : ∀ L : List (List Nat), (L.flatMap (longer r k)).length ≤ L.length * r.count
  | [] => Nat.zero_le _
  | b :: L => by
    rw [List.flatMap_cons, List.length_append, List.length_cons, Nat.succ_mul, Nat.add_comm]
    refine Nat.add_le_add (flatMap_longer_len r k L) ?_
    unfold longer cands
    rw [List.length_map]
    refine Nat.le_trans (List.length_filter_le _ _) ?_
    rw [List.length_range]
    exact Nat.le_refl _
theorem level_small {r : Sj11.Ranks} (h : r.count ≤ 6) {k : Nat} (hk : k < r.count) : (level r k).length * r.count ≤ 46656 := by
  have h1 := level_size r k
  have h2 : r.count ^ k * r.count ≤ 6 ^ 6 := by
    rw [← Nat.pow_succ]
    exact Nat.le_trans (Nat.pow_le_pow_left h _) (Nat.pow_le_pow_right (by decide) (by omega))
  exact Nat.le_trans (Nat.mul_le_mul_right _ h1) h2
/-- what stands in longer behind i beginnings and j numbers -/
def part (r : Sj11.Ranks) (k i j : Nat) (b : List Nat) : List (List Nat) :=
  ((level r k).take i).flatMap (longer r k) ++ (((List.range j).filter fun x => !b.contains x && mayHave (r.of_ k) k x).map fun x => b ++ [x])
theorem part_len {r : Sj11.Ranks} (h : r.count ≤ 6) {k i j : Nat} (hk : k < r.count) (hi : i < (level r k).length) (hj : j ≤ r.count) (b : List Nat) : (part r k i j b).length ≤ 46656 := by
  unfold part
  rw [List.length_append, List.length_map]
  have h1 := flatMap_longer_len r k ((level r k).take i)
  rw [List.length_take, Nat.min_eq_left (by omega)] at h1
  have h2 : ((List.range j).filter fun x => !b.contains x && mayHave (r.of_ k) k x).length ≤ j := by
    refine Nat.le_trans (List.length_filter_le _ _) ?_
    rw [List.length_range]
    exact Nat.le_refl _
  have h3 := level_small h hk
  have h4 : (i + 1) * r.count ≤ (level r k).length * r.count := Nat.mul_le_mul_right _ hi
  rw [Nat.succ_mul] at h4
  omega
theorem part_zero (r : Sj11.Ranks) (k i : Nat) (b : List Nat) : part r k i 0 b = ((level r k).take i).flatMap (longer r k) := by
  unfold part
  show _ ++ [] = _
  rw [List.append_nil]
theorem part_yes {r : Sj11.Ranks} {k i j : Nat} {b : List Nat} (h : (!b.contains j && mayHave (r.of_ k) k j) = true) : part r k i (j + 1) b = part r k i j b ++ [b ++ [j]] := by
  unfold part
  rw [List.range_succ, List.filter_append, List.map_append, ← List.append_assoc]
  congr 1
  rw [List.filter_cons_of_pos (p := fun x => !b.contains x && mayHave (r.of_ k) k x) h]
  rfl
theorem part_no {r : Sj11.Ranks} {k i j : Nat} {b : List Nat} (h : (!b.contains j && mayHave (r.of_ k) k j) = false) : part r k i (j + 1) b = part r k i j b := by
  unfold part
  rw [List.range_succ, List.filter_append, List.map_append, ← List.append_assoc]
  rw [List.filter_cons_of_neg (p := fun x => !b.contains x && mayHave (r.of_ k) k x) (by rw [h]; decide)]
  show _ ++ [] = _
  rw [List.append_nil]
theorem part_all {r : Sj11.Ranks} {k i : Nat} {b : List Nat} (h : (level r k)[i]? = some b) : part r k i r.count b = ((level r k).take (i + 1)).flatMap (longer r k) := by
  rw [List.take_add_one, h, List.flatMap_append]
  unfold part
  congr 1
  show _ = [b].flatMap (longer r k)
  rw [List.flatMap_singleton]
  rfl
section
variable {P : Program} {w : World} {K : PySem.W.Frag} {mg : Str → Option Value} {base : Heap} {CW CR CX CH fX : Addr}
/-! ### all_that_can_be -/
theorem scAll : FnScope ["self", "many", "found", "rank", "longer", "begun", "new"] ["self"] (defScope sAll) := ⟨rfl, rfl, rfl, by decide +kernel, rfl, by decide +kernel, by decide +kernel⟩
def spAll (CW CR : Addr) : Sp := fun vs H Q _ => ∃ (a l : Addr) (r : Sj11.Ranks), vs = [.ref a] ∧ RAt CW CR H a l r ∧ Fine r ∧ ∀ H' p as, Same H H' → H p = none → LsIn H' p as r.lists → Q (.ref p) H'
theorem ok_all {f fM : Addr} {fd fdM : FuncData} (F : Fun K "all_that_can_be" "RankList.all_that_can_be" sAll f fd) (T : Txt K mg CW CR CX CH fX) (FM : Fun K "may_have" "Wrestler.may_have" sMay fM fdM) (bM : Binds K fdM ["self", "old", "new"] []) (mM : Meth K CW "may_have" fM) :
    FnOk P w K mg base CX0 2 f fd ["self"] (spAll CW CR) := by
  have GM : FnOk P w K mg base CX0 1 fM fdM ["self", "old", "new"] (spMay CW) := ok_may FM T
  refine F.ok scAll (fun vs H Q E h => ?_) (fun cdv A outer s H vs Q E hr h => ?_)
  · obtain ⟨a, l, r, rfl, _⟩ := h
    rfl
  · obtain ⟨a, l, r, rfl, hR, fine, k⟩ := h
    have nd := scAll.nd
    refine ⟨_, pss_cons (ps_set (i := 1) nd rfl (Or.inl rfl) (pe_callB call_len_seq (by rfl) T.len PySem.boot_len (pa_cons (pe_fld (pv 0) rfl) pa_nil)))
      (pss_cons (ps_set (i := 2) nd rfl (Or.inl rfl) (pe_lst (pa_cons (pe_lst pa_nil) pa_nil)))
      (pss_cons (ps_for PassesOwn.never rfl (pi_range1 rfl T.range (pa_cons (pv 1) pa_nil)) (pg_name (i := 3) nd rfl (Or.inl rfl))
        (pss_cons (ps_set (i := 4) nd rfl (Or.inl rfl) (pe_lst pa_nil))
        (pss_cons (ps_for PassesOwn.never rfl (pi_list (pv 2)) (pg_name (i := 5) nd rfl (Or.inl rfl))
          (pss_one (ps_for PassesOwn.never rfl (pi_range1 rfl T.range (pa_cons (pv 1) pa_nil)) (pg_name (i := 6) nd rfl (Or.inl rfl))
            (pss_one (ps_if (pw_and (pt_cmpR op_notIn_seq (pv 6) (pv 5) rfl) (pw_and1 (pt_val (pe_meth (pe_ix ix_list (pe_fld (pv 0) rfl) (pv 3) (fun _ _ => rfl)) T.clW mM GM hr bM .nil pass0 (pa_cons (pv 3) (pa_cons (pv 6) pa_nil)))))).pt
              (pss_one (ps_expr (pe_bm PySem.F.plainAttrs_list PySem.F.slot_list_append PySem.F.type_list_append mt_append (pv 4) (pa_cons (pe_op op_cat (pv 5) (pe_lst (pa_cons (pv 6) pa_nil))) pa_nil)))) pss_nil)))))
        (pss_one (ps_set (i := 2) nd rfl (Or.inl rfl) (pv 4))))))
      (pss_one (ps_ret (pv 2))))), ?_⟩
    have fc := fine.count
    obtain ⟨⟨dx, ho⟩, ws, hl, hlen, hw⟩ := id hR
    -- many, found
    refine ⟨_, rfl, a, CR, dx, _, _, rfl, ho, T.clR, T.nWr, rF_wr r l, l, _, rfl, .inl (SqL.of hl), ?_⟩
    rw [List.length_map, hlen]
    refine ⟨Nat.zero_le _, fun e ne => ⟨(by show 1 ≤ sizeLine; decide), fun F0 nF => ?_⟩⟩
    have nF' : H F0 = none := (same_upd ne).free nF
    have neF : e ≠ F0 := fun z => by
      rw [← z, upd_same] at nF
      cases nF
    refine ⟨_, rfl, _, rfl, by omega, by omega, ?_⟩
    refine for_range (lo := 0) (n := (r.count : Int).toNat) (fun i σ H' => ∃ F as v3 v4 v5 v6, σ = [some (.ref a), some (.int (r.count : Int)), some (.ref F), v3, v4, v5, v6] ∧ Same H H' ∧ H F = none ∧ LsIn H' F as (level r i)) ?_ ?_ ?_
    · refine ⟨F0, [e], none, none, none, none, rfl, fun b o q => ?_, nF', ⟨by rw [upd_same]; rfl, rfl, fun i l h => ?_⟩⟩
      · rw [upd_ne (ne_of_none q nF'), upd_ne (ne_of_none q ne)]
        exact q
      · cases i with
        | succ i => cases h
        | zero =>
          have h' : [] = l := Option.some.inj h
          subst h'
          refine ⟨e, rfl, neF, ?_⟩
          rw [upd_ne neF, upd_same]
          rfl
    · rintro kk σ H' hk ⟨F1, as, v3, v4, v5, v6, rfl, sm, nF1, hL⟩
      rw [Int.zero_add]
      have hk' : kk < r.count := by omega
      -- longer = []
      refine ⟨Nat.zero_le _, fun G nG => ?_⟩
      have nGF : F1 ≠ G := ne_of_none hL.at_ nG
      refine ⟨_, rfl, F1, rfl, ⟨_, SqL.of ((same_upd nG) _ _ hL.at_)⟩, ?_⟩
      refine for_list (K := K) (a := F1) (xs := as.map V.ref) (fun i σ H2 => ∃ bs v5 v6, σ = [some (.ref a), some (.int (r.count : Int)), some (.ref F1), some (.int (kk : Int)), some (.ref G), v5, v6] ∧ Same H' H2 ∧ LsIn H2 G bs (((level r kk).take i).flatMap (longer r kk)))
        ⟨[], v5, v6, rfl, same_upd nG, by rw [upd_same]; rfl, rfl, fun i l h => by cases h⟩ (fun i σ H2 _ ⟨_, _, _, _, s2, _⟩ => SqL.of (s2 _ _ hL.at_)) ?_ ?_
      · rintro i x σ H2 hx ⟨bs, v5, v6, rfl, s2, hB⟩
        obtain ⟨hia, ea⟩ := List.getElem?_eq_some_iff.mp hx
        rw [List.length_map] at hia
        have hil : i < (level r kk).length := by rw [← hL.len]; exact hia
        have eL : (level r kk)[i]? = some (level r kk)[i] := List.getElem?_eq_getElem hil
        generalize (level r kk)[i] = bg at eL
        obtain ⟨b, eb, _, hb⟩ := hL.it i bg eL
        have ex : x = .ref b := by
          rw [List.getElem?_map, eb] at hx
          exact (Option.some.inj hx).symm
        subst ex
        have nbG : b ≠ G := ne_of_none hb nG
        -- the inner loop
        refine ⟨_, rfl, _, rfl, by omega, by omega, ?_⟩
        refine for_range (lo := 0) (n := (r.count : Int).toNat) (fun j σ H3 => ∃ bs v6, σ = [some (.ref a), some (.int (r.count : Int)), some (.ref F1), some (.int (kk : Int)), some (.ref G), some (.ref b), v6] ∧ Same H' H3 ∧ LsIn H3 G bs (part r kk i j bg))
          ⟨bs, v6, rfl, s2, by rw [part_zero]; exact hB⟩ ?_ ?_
        · rintro j σ H3 hj ⟨cs, v6, rfl, s3, hC⟩
          rw [Int.zero_add]
          have hj' : j < r.count := by omega
          have hb3 : H3 b = some (.lst (nV bg)) := s3 _ _ hb
          refine ⟨_, rfl, _, rfl, b, nV bg, rfl, .inl (SqL.of hb3), rfl, nV_flat bg, _, rfl, ?_⟩
          show ite ((!inV (.int (j : Int)) (nV bg)) = true) _ _
          rw [nV_in]
          refine ite2 (fun c => ?_) (fun c => ?_)
          · have hR3 := (hR.same sm).same s3
            obtain ⟨⟨d3, ho3⟩, ws3, hl3, hlen3, hw3⟩ := hR3
            obtain ⟨y, hy, dy, hY⟩ := hw3 kk hk'
            have hy' : (ws3.map V.ref)[kk]? = some (.ref y) := by
              rw [List.getElem?_map, hy]
              rfl
            refine ⟨_, rfl, a, CR, d3, _, _, rfl, ho3, T.clR, T.nWr, rF_wr r l, _, rfl, l, _, _, _, rfl, rfl, SqL.of hl3, atI_nat hy', ?_⟩
            refine ⟨y, dy, _, rfl, hY, wF_may _, _, rfl, _, rfl, ?_⟩
            refine ⟨y, r.of_ kk, kk, j, rfl, ⟨dy, hY⟩, _, rfl, ?_⟩
            refine ite2 (fun c2 => ?_) (fun c2 => ?_)
            · have cc : (!bg.contains j && mayHave (r.of_ kk) kk j) = true := by rw [c, c2]; rfl
              refine ⟨_, rfl, .inl ⟨rfl, _, SqL.of hC.at_⟩, _, rfl, _, rfl, (by show 1 ≤ sizeLine; decide), fun t nt => ?_⟩
              have nbt : b ≠ t := ne_of_none hb3 nt
              have nGt : G ≠ t := ne_of_none hC.at_ nt
              have hbg : bg.length = kk := level_len r kk bg (List.mem_of_getElem? eL)
              refine ⟨b, t, nV bg, _, rfl, rfl, by rw [upd_ne nbt]; exact hb3, upd_same, ?_, fun c3 nc => ?_⟩
              · rw [nV_len, hbg]
                exact small' (by show kk + 1 ≤ 1000000; omega)
              · have nct : c3 ≠ t := fun z => by
                  rw [z, upd_same] at nc
                  cases nc
                have nc' : H3 c3 = none := (same_upd nt).free nc
                have ncG : c3 ≠ G := (ne_of_none hC.at_ nc').symm
                have s4 : Same H3 (upd (upd H3 t (.lst [.int (j : Int)])) c3 (.lst (nV bg ++ [.int (j : Int)]))) := same_upd2 (same_upd nt) nc'
                have hC4 := hC.same s4
                have e4 : nV bg ++ [.int (j : Int)] = nV (bg ++ [j]) := by
                  unfold nV
                  rw [List.map_append]
                  rfl
                refine ⟨G, _, _, rfl, rfl, hC4.at_, ?_, ?_⟩
                · rw [List.length_map, hC.len]
                  exact small (Nat.le_trans (part_len fc hk' hil (Nat.le_of_lt hj') bg) (by decide))
                · refine ⟨cs ++ [c3], _, rfl, ?_, ?_⟩
                  · exact fun z o q => by
                      have nz : z ≠ G := ne_of_none q nG
                      rw [upd_ne nz]
                      exact s4 _ _ (s3 _ _ q)
                  · rw [part_yes cc]
                    refine hC4.push ?_ ncG
                    rw [upd_same, e4]
            · have cc : (!bg.contains j && mayHave (r.of_ kk) kk j) = false := by
                rw [c, Bool.true_and]
                simpa using c2
              exact ⟨cs, _, rfl, s3, by rw [part_no cc]; exact hC⟩
          · have cc : (!bg.contains j && mayHave (r.of_ kk) kk j) = false := by
              have : (!bg.contains j) = false := by simpa using c
              rw [this, Bool.false_and]
            refine iteF ?_
            exact ⟨cs, _, rfl, s3, by rw [part_no cc]; exact hC⟩
        · rintro σ H3 ⟨cs, v6, rfl, s3, hC⟩
          refine ⟨cs, _, v6, rfl, s3, ?_⟩
          have e : (r.count : Int).toNat = r.count := by omega
          rw [e, part_all eL] at hC
          exact hC
      · rintro σ H2 ⟨bs, v5, v6, rfl, s2, hB⟩
        refine ⟨_, rfl, ?_⟩
        rw [List.length_map, hL.len, List.take_length] at hB
        exact ⟨G, bs, _, _, v5, v6, rfl, sm.trans s2, sm.free nG, hB⟩
    · rintro σ H' ⟨F1, as, v3, v4, v5, v6, rfl, sm, nF1, hL⟩
      refine ⟨_, rfl, ?_⟩
      have e : (r.count : Int).toNat = r.count := by omega
      rw [e, level_all] at hL
      exact k H' F1 as sm nF1 hL
end
end Nr
namespace Nr
open PySem PySem.Spec PyProof.Rows L2
/-- the pairs of what is earned and the rank, at D -/
structure PrIn (r : Sj11.Ranks) (H : Hp) (D : Addr) (ts : List Addr) (n : Nat) : Prop where
  at_ : H D = some (.lst (ts.map V.ref))
  len : ts.length = n
  it : ∀ i : Nat, i < n → ∃ t, ts[i]? = some t ∧ H t = some (.tup [.int (r.earned i), .int (i : Int)])
/-- the pair at an address -/
def keyOf (H : Hp) : V → Int × Int
  | .ref t => match H t with
    | some (.tup [.int i, .int j]) => (i, j)
    | _ => (0, 0)
  | _ => (0, 0)
theorem keyOf_at {H : Hp} {t : Addr} {i j : Int} (h : H t = some (.tup [.int i, .int j])) : keyOf H (.ref t) = (i, j) := by
  simp only [keyOf, h]
section
variable {P : Program} {w : World} {K : PySem.W.Frag} {mg : Str → Option Value} {base : Heap} {CW CR CX CH fX : Addr}
/-- the sorted pairs are the pairs of the order -/
theorem order_of {r : Sj11.Ranks} {H : Hp} {D : Addr} {ts : List Addr} (hP : PrIn r H D ts r.count) {ys : List V} (h1 : SrtO.Srtd (ltP (keyOf H)) ys) (h2 : ys.Perm (ts.map V.ref)) :
    ys.length = r.count ∧ ∀ i : Nat, i < r.count → ∃ t x, ys[i]? = some (.ref t) ∧ (order r)[i]? = some x ∧ H t = some (.tup [.int (r.earned x), .int (x : Int)]) := by
  have all : ∀ y ∈ ys, ∃ t x, y = V.ref t ∧ x < r.count ∧ H t = some (.tup [.int (r.earned x), .int (x : Int)]) := fun y hy => by
    obtain ⟨t, ht, rfl⟩ := List.mem_map.mp (h2.mem_iff.mp hy)
    obtain ⟨i, hi, e⟩ := List.mem_iff_getElem.mp ht
    have hi' : i < r.count := by rw [← hP.len]; exact hi
    obtain ⟨t', e1, e2⟩ := hP.it i hi'
    rw [List.getElem?_eq_getElem hi, e] at e1
    cases e1
    exact ⟨t, i, rfl, hi', e2⟩
  have hlen : ys.length = r.count := by rw [h2.length_eq, List.length_map, hP.len]
  let o : List Nat := ys.map fun y => (keyOf H y).2.toNat
  have kx : ∀ {y t x}, y = V.ref t → H t = some (.tup [.int (r.earned x), .int ((x : Nat) : Int)]) → keyOf H y = (r.earned x, (x : Int)) := fun {y t x} e h => by
    rw [e]
    exact keyOf_at h
  have op : o.Perm (List.range r.count) := by
    have q : o.Perm ((ts.map V.ref).map fun y => (keyOf H y).2.toNat) := h2.map _
    have e : (ts.map V.ref).map (fun y => (keyOf H y).2.toNat) = List.range r.count := by
      refine List.ext_getElem? fun i => ?_
      by_cases hi : i < r.count
      · obtain ⟨t, e1, e2⟩ := hP.it i hi
        rw [List.getElem?_map, List.getElem?_map, e1, List.getElem?_range hi]
        show some (keyOf H (.ref t)).2.toNat = some i
        rw [keyOf_at e2]
        rfl
      · rw [List.getElem?_eq_none (by rw [List.length_map, List.length_map, hP.len]; omega), List.getElem?_eq_none (by rw [List.length_range]; omega)]
    rw [e] at q
    exact q
  have os : o.Pairwise fun i k => ple r i k = true := by
    refine List.pairwise_map.mpr ?_
    refine List.Pairwise.imp_of_mem ?_ h1
    intro y z hy hz h
    obtain ⟨t, x, e, _, ht⟩ := all y hy
    obtain ⟨t', x', e', _, ht'⟩ := all z hz
    have h' : SrtO.lexB (keyOf H z) (keyOf H y) = false := h
    rw [kx e ht, kx e' ht'] at h' ⊢
    have := SrtO.lexB_no.mp h'
    rw [ple_iff]
    show r.earned ((x : Int).toNat) < r.earned ((x' : Int).toNat) ∨ _
    rw [Int.toNat_natCast, Int.toNat_natCast]
    dsimp only at this
    omega
  have e := order_uniq r op os
  refine ⟨hlen, fun i hi => ?_⟩
  have hi' : i < ys.length := by omega
  obtain ⟨t, x, ey, hx, ht⟩ := all ys[i] (List.getElem_mem hi')
  refine ⟨t, x, by rw [List.getElem?_eq_getElem hi', ey], ?_, ht⟩
  rw [← e]
  show (ys.map fun y => (keyOf H y).2.toNat)[i]? = some x
  rw [List.getElem?_map, List.getElem?_eq_getElem hi', Option.map_some, kx ey ht]
  rfl
/-! ### by_what_is_earned -/
theorem scBy : FnScope ["self", "keys", "key", "new", "place", "rank"] ["self"] (defScope sBy) := ⟨rfl, rfl, rfl, by decide +kernel, rfl, by decide +kernel, by decide +kernel⟩
def spBy (CW CR : Addr) : Sp := fun vs H Q _ => ∃ (a l : Addr) (r : Sj11.Ranks), vs = [.ref a] ∧ RAt CW CR H a l r ∧ Fine r ∧ ∀ H' p, Same H H' → H p = none → H' p = some (.lst (nV r.plain)) → Q (.ref p) H'
theorem nV_set (l : List Nat) (i x : Nat) : (nV l).set i (.int (x : Int)) = nV (l.set i x) := by
  unfold nV
  rw [List.map_set]
theorem ok_by {f fE : Addr} {fd fdE : FuncData} (F : Fun K "by_what_is_earned" "RankList.by_what_is_earned" sBy f fd) (T : Txt K mg CW CR CX CH fX) (FE : Fun K "earned" "RankList.earned" sEarned fE fdE) (bE : Binds K fdE ["self", "rank"] []) (mE : Meth K CR "earned" fE) :
    FnOk P w K mg base CX0 2 f fd ["self"] (spBy CW CR) := by
  have GE : FnOk P w K mg base CX0 1 fE fdE ["self", "rank"] (spEarned CW CR) := ok_earned FE T
  refine F.ok scBy (fun vs H Q E h => ?_) (fun cdv A outer s H vs Q E hr h => ?_)
  · obtain ⟨a, l, r, rfl, _⟩ := h
    rfl
  · obtain ⟨a, l, r, rfl, hR, fine, k⟩ := h
    have nd := scBy.nd
    refine ⟨_, pss_cons (ps_set (i := 1) nd rfl (Or.inl rfl) (pe_callB cr_sortedPO (by rfl) T.sorted (by decide +kernel) (pa_cons
        (pe_lc (own := [("rank", 5)]) (g := gName 5) (tt := tYes) rfl nd (pi_range1 rfl T.range (pa_cons (pe_callB call_len_seq (by rfl) T.len PySem.boot_len (pa_cons (pe_fld (pv 0) rfl) pa_nil)) pa_nil))
          (blkOk_by (N := ["self", "keys", "key", "new", "place", "rank"]) (sc := defScope sBy) (by decide +kernel)) (fun _ _ _ _ _ => pg_name (i := 5) nd rfl (Or.inl rfl)) (fun _ _ _ _ _ => pts_nil)
          (fun _ _ _ _ _ => pe_tup (pa_cons (pe_meth (pv 0) T.clR mE GE hr bE .nil pass0 (pa_cons (pv 5) pa_nil)) (pa_cons (pv 5) pa_nil)))) pa_nil)))
      (pss_cons (ps_setLc (i := 3) (own := [("key", 2)]) (g := gName 2) (tt := tYes) rfl nd rfl rfl (sw_true rfl rfl rfl (by decide +kernel)) (pi_list (pv 1))
          (blkOk_by (N := ["self", "keys", "key", "new", "place", "rank"]) (sc := defScope sBy) (by decide +kernel)) (fun _ _ _ _ _ => pg_name (i := 2) nd rfl (Or.inl rfl)) (fun _ _ _ _ _ => pts_nil) (fun _ _ _ _ _ => pe_int))
      (pss_cons (ps_for PassesOwn.never rfl (pi_enum (by rfl) T.enumerate (pa_cons (pv 1) pa_nil)) (pg_tup rfl (pgs_cons (pg_name (i := 4) nd rfl (Or.inl rfl)) (pgs_cons (pg_name (i := 2) nd rfl (Or.inl rfl)) pgs_nil)))
          (pss_one (ps_asg (pv 4) (pg_sub (pv 3) (pe_ix ix_tup (pv 2) pe_int (fun _ _ => rfl)) set_list))))
      (pss_one (ps_ret (pv 3))))), ?_⟩
    have fc := fine.count
    obtain ⟨⟨dx, ho⟩, ws, hl, hlen, hw⟩ := id hR
    -- keys
    refine ⟨_, rfl, a, CR, dx, _, _, rfl, ho, T.clR, T.nWr, rF_wr r l, l, _, rfl, .inl (SqL.of hl), ?_⟩
    rw [List.length_map, hlen]
    refine ⟨_, rfl, by omega, by omega, fun D hD => ?_⟩
    refine lc_range (lo := 0) (n := (r.count : Int).toNat) (fun i H' => Same H H' ∧ ∃ ts, PrIn r H' D ts i) ⟨same_upd hD, [], by rw [upd_same]; rfl, rfl, fun i h => absurd h (Nat.not_lt_zero _)⟩ (fun i H' hi hP => ?_) (fun H1 hP => ?_)
    · obtain ⟨sm, ts, hT⟩ := hP
      rw [Int.zero_add]
      have hi' : i < r.count := by omega
      refine ⟨rfl, ?_⟩
      refine tyes_of ?_
      obtain ⟨d1, ho1⟩ := (hR.same sm).obj
      refine ⟨_, rfl, a, d1, _, rfl, ho1, rF_no r l _ (by decide +kernel) (by decide +kernel), _, rfl, a, l, r, i, rfl, hR.same sm, fine, hi', _, rfl, ?_⟩
      refine ⟨(by show 2 ≤ sizeLine; decide), fun t nt => ?_⟩
      have ntD : D ≠ t := ne_of_none hT.at_ nt
      refine ⟨_, by rw [upd_ne ntD]; exact hT.at_, ?_, ?_, ts ++ [t], ?_⟩
      · rw [List.length_map, hT.len]
        exact small (by omega)
      · exact fun b o e => by
          rw [upd_ne (ne_of_none e hD)]
          exact same_upd nt _ _ (sm _ _ e)
      · refine ⟨by rw [upd_same, List.map_append]; rfl, by rw [List.length_append, hT.len]; rfl, fun j hj => ?_⟩
        by_cases e : j < i
        · obtain ⟨u, e1, e2⟩ := hT.it j e
          have hu : u ≠ D := ne_of e2 hT.at_ (by intro z; cases z)
          refine ⟨u, by rw [List.getElem?_append_left (by rw [hT.len]; exact e)]; exact e1, ?_⟩
          rw [upd_ne hu]
          exact same_upd nt _ _ e2
        · have e' : j = i := by omega
          subst e'
          refine ⟨t, by rw [List.getElem?_append_right (by rw [hT.len]; exact Nat.le_refl _), hT.len, Nat.sub_self]; rfl, ?_⟩
          rw [upd_ne ntD.symm, upd_same]
    · obtain ⟨sm, ts, hT⟩ := hP
      rw [show (r.count : Int).toNat = r.count by omega] at hT
      refine ⟨D, ts.map V.ref, keyOf H1, rfl, SqL.of hT.at_, fun x hx => ?_, fun ys Y hs hb nY => ?_⟩
      · obtain ⟨t, ht, rfl⟩ := List.mem_map.mp hx
        obtain ⟨i, hi, e⟩ := List.mem_iff_getElem.mp ht
        obtain ⟨t', e1, e2⟩ := hT.it i (by rw [← hT.len]; exact hi)
        rw [List.getElem?_eq_getElem hi, e] at e1
        cases e1
        exact ⟨t, rfl, by rw [keyOf_at e2]; exact e2⟩
      · obtain ⟨yl, yi⟩ := order_of hT hs hb.perm
        have s2 : Same H1 (upd H1 Y (.lst ys)) := same_upd nY
        have eY : (upd H1 Y (.lst ys)) Y = some (.lst ys) := upd_same
        generalize upd H1 Y (.lst ys) = H2 at s2 eY
        -- new
        refine ⟨_, rfl, Y, rfl, ⟨_, SqL.of eY⟩, fun N hN => ?_⟩
        refine lc_list (K := K) (a := Y) (xs := ys) (fun i H' => Same H2 H' ∧ H' N = some (.lst (List.replicate i (.int 0)))) ⟨same_upd hN, by rw [upd_same]; rfl⟩ (fun i H' _ hP => SqL.of (hP.1 _ _ eY)) (fun i x H' hx hP => ?_) (fun H3 hP => ?_)
        · obtain ⟨s3, e3⟩ := hP
          refine ⟨rfl, ?_⟩
          refine tyes_of ?_
          have hi : i < ys.length := (List.getElem?_eq_some_iff.mp hx).1
          refine ⟨_, e3, ?_, ?_, ?_⟩
          · rw [List.length_replicate]
            exact small (by omega)
          · exact fun b o e => by
              rw [upd_ne (ne_of_none e hN)]
              exact s3 _ _ e
          · rw [upd_same, List.replicate_succ']
        · obtain ⟨s3, e3⟩ := hP
          have e4 : H3 N = some (.lst (nV (fill r 0))) := by
            rw [e3, yl, fill_zero]
            unfold nV
            rw [List.map_replicate]
            rfl
          -- the loop
          refine ⟨_, rfl, Y, ys, rfl, SqL.of (s3 _ _ eY), ?_⟩
          refine ⟨fun i m σ H' => ∃ v2 v4, σ = [some (.ref a), some (.ref Y), v2, some (.ref N), v4, none] ∧ i + m = r.count ∧ Same H2 H' ∧ H' N = some (.lst (nV (fill r i))), ⟨r.count, none, none, rfl, by omega, s3, e4⟩, fun i m σ H' hW => ?_⟩
          obtain ⟨v2, v4, rfl, em, s4, e5⟩ := hW
          by_cases hi : i < r.count
          · obtain ⟨t, x, e6, e7, e8⟩ := yi i hi
            refine .inr ⟨⟨ys, .ref t, SqL.of (s4 _ _ eY), e6⟩, fun σ' H'' => ∃ v2 v4, σ' = [some (.ref a), some (.ref Y), v2, some (.ref N), v4, none] ∧ Same H2 H'' ∧ H'' N = some (.lst (nV (fill r (i + 1)))), fun σ' H'' hN' => ?_, fun z H'' hy => ?_⟩
            · obtain ⟨u2, u4, e9, s5, e10⟩ := hN'
              exact ⟨m - 1, by omega, u2, u4, e9, by omega, s5, e10⟩
            · obtain ⟨Z, x1, rfl, nZ, rfl, f1⟩ := hy
              have ex1 : x1 = .ref t := Option.some.inj ((f1 _ (SqL.of (s4 _ _ eY))).symm.trans e6)
              subst ex1
              refine ⟨Z, [.int (i : Int), .ref t], rfl, .inl (.inl upd_same), rfl, _, _, rfl, _, _, rfl, rfl, ?_⟩
              have sZ := same_upd (o := .tup [.int (i : Int), .ref t]) nZ
              have eT : (upd H' Z (.tup [.int (i : Int), .ref t])) t = some (.tup [.int (r.earned x), .int (x : Int)]) := sZ _ _ (s4 _ _ (s2 _ _ e8))
              have hxc : x < r.count := order_lt r e7
              refine ⟨_, rfl, _, rfl, _, rfl, t, _, 1, .int (x : Int), rfl, rfl, .inl (.inl eT), rfl, ?_⟩
              have hfl : (nV (fill r i)).length = r.count := by
                rw [nV_len]
                unfold fill
                rw [List.length_map, List.length_range]
              refine ⟨N, _, x, x, rfl, rfl, sZ _ _ e5, ?_, ?_⟩
              · unfold ixN
                rw [if_pos (by omega), if_pos (by rw [hfl]; omega), Int.toNat_natCast]
              · refine ⟨_, _, rfl, fun b o q => ?_, ?_⟩
                · rw [upd_ne (ne_of_none q hN)]
                  exact sZ _ _ (s4 _ _ q)
                · rw [upd_same, nV_set, fill_succ r e7]
          · refine .inl ⟨⟨ys, SqL.of (s4 _ _ eY), by omega⟩, ?_⟩
            have ei : i = r.count := by omega
            rw [ei, fill_all] at e5
            exact ⟨_, rfl, k H' N (sm.trans (s2.trans s4)) (sm.free (s2.free hN)) e5⟩
end
end Nr
namespace Nr
open PySem PySem.Spec PyProof.Rows L2
/-- what a call leaves: the holder's list is r' now, the answer is a new list of out; but for the holder and the wrestlers' list all is as it was -/
def Done (CW CR CH : Addr) (H : Hp) (h l : Addr) (r' : Sj11.Ranks) (out : List Int) (Q : VK) : Prop :=
  ∀ (H' : Hp) (l' p : Addr), HAt CW CR CH H' h l' r' → (l' = l ∨ H l' = none) → (∀ b o, H b = some o → b ≠ h → b ≠ l → H' b = some o) → H p = none → H' p = some (.lst (out.map V.int)) → Q (.ref p) H'
/-- a refusal: nothing has changed -/
def Refd (CX : Addr) (H : Hp) (r r' : Sj11.Ranks) (out : List Int) (E : XK) : Prop :=
  r' = r → ∀ (H' : Hp) (d m : Addr) (n : Int) (more : List Int), out = n :: more → Same H H' → H' d = some (.xd [("more", .ref m), ("number", .int n)]) → H' m = some (.lst (more.map V.int)) → more.length ≤ 1000 → E (.ref CX) (some d) H'
structure Op (CW CR CX CH : Addr) (H : Hp) (h l : Addr) (r : Sj11.Ranks) (q : Sj11.Call) (Q : VK) (E : XK) : Prop where
  at_ : HAt CW CR CH H h l r
  fine : Fine r
  done : Done CW CR CH H h l (Sj11.step r q).1 (told (Sj11.step r q).2) Q
  refd : Refd CX H r (Sj11.step r q).1 (told (Sj11.step r q).2) E
section
variable {P : Program} {w : World} {K : PySem.W.Frag} {mg : Str → Option Value} {base : Heap} {CW CR CX CH fX : Addr}
/-! ### Refused -/
theorem scXInit : FnScope ["self", "number", "more"] ["self", "number", "more"] (defScope sXInit) := ⟨rfl, rfl, rfl, by decide +kernel, rfl, by decide +kernel, by decide +kernel⟩
def spXInit (CX : Addr) : Sp := fun vs H Q _ => ∃ (e : Addr) (n m : V), vs = [.ref e, n, m] ∧ H e = some (exo e CX none) ∧
  ∀ dx, H dx = none → dx ≠ e → Q .non (upd (upd (upd H dx (exd dx [("number", n)])) e (exo e CX (some dx))) dx (exd dx [("more", m), ("number", n)]))
theorem ok_xinit {f : Addr} {fd : FuncData} (F : Fun K "__init__" "Refused.__init__" sXInit f fd) (T : Txt K mg CW CR CX CH fX) : FnOk P w K mg base CX0 1 f fd ["self", "number", "more"] (spXInit CX) := by
  refine F.ok scXInit (fun vs H Q E h => ?_) (fun cdv A outer s H vs Q E hr h => ?_)
  · obtain ⟨e, n, m, rfl, _⟩ := h
    rfl
  · obtain ⟨e, n, m, rfl, he, k⟩ := h
    refine ⟨_, pss_cons (ps_ost (pv 0) (pv 1)) (pss_one (ps_ost (pv 0) (pv 2))), ?_⟩
    refine ⟨_, rfl, _, rfl, e, CX, rfl, T.ox, T.nNum, .inl ⟨he, fun dx nd ne => ?_⟩⟩
    refine ⟨_, rfl, _, rfl, e, CX, rfl, T.ox, T.nMore, .inr ⟨dx, _, upd_same, by rw [upd_ne ne, upd_same], (by show 1 ≤ 900; decide), ?_⟩⟩
    exact k dx nd ne
/-! ### need -/
theorem scNeed : FnScope ["fulfilled", "number"] ["fulfilled", "number"] (defScope sNeed) := ⟨rfl, rfl, rfl, by decide +kernel, rfl, by decide +kernel, by decide +kernel⟩
def spNeed (CX : Addr) : Sp := fun vs H Q E => ∃ (b : Bool) (n : Int), vs = [.bl b, .int n] ∧ (b = true → Q .non H) ∧
  (b = false → ∀ (H' : Hp) (d m : Addr), Same H H' → H' d = some (.xd [("more", .ref m), ("number", .int n)]) → H' m = some (.lst []) → E (.ref CX) (some d) H')
/-- the heap that a refusal leaves -/
theorem made_heap {H : Hp} {a d : Addr} {n mv : V} (na : H a = none) (nd : H d = none) (ne : d ≠ a) :
    Same H (upd (del (upd (upd (upd (upd H a (exo a CX none)) d (exd d [("number", n)])) a (exo a CX (some d))) d (exd d [("more", mv), ("number", n)])) a) d (.xd [("more", mv), ("number", n)])) := fun b o q => by
  have h1 : b ≠ a := ne_of_none q na
  have h2 : b ≠ d := ne_of_none q nd
  rw [upd_ne h2, del_ne h1, upd_ne h2, upd_ne h1, upd_ne h2, upd_ne h1]
  exact q
theorem ok_need {f fXi : Addr} {fd fdX : FuncData} (F : Fun K "need" "need" sNeed f fd) (T : Txt K mg CW CR CX CH fX) (FX : Fun K "__init__" "Refused.__init__" sXInit fX fdX) (bX : Binds K fdX ["self", "number", "more"] []) :
    FnOk P w K mg base (L2.CX P w) 3 f fd ["fulfilled", "number"] (spNeed CX) := by
  have GX : FnOk P w K mg base CX0 1 fX fdX ["self", "number", "more"] (spXInit CX) := ok_xinit FX T
  refine F.okX scNeed (fun vs H Q E h => ?_) (fun cdv A outer s H vs Q E hr h => ?_)
  · obtain ⟨b, n, rfl, _⟩ := h
    rfl
  · obtain ⟨b, n, rfl, kT, kF⟩ := h
    refine ⟨_, pss_one (ps_if (pt_not (pt_val (pv 0))) (pss_one (ps_raise rfl (takes_of rfl rfl rfl rfl) (pmk_oex T.ox T.iX T.tX GX hr bX .nil pass0 rfl T.gX (pa_cons (pv 1) (pa_cons (pe_lst pa_nil) pa_nil))))) pss_nil), ?_⟩
    refine ⟨_, rfl, b, rfl, ?_⟩
    refine ite2 (fun c => ?_) (fun c => ?_)
    · have hb : b = false := by simpa using c
      refine ⟨_, rfl, Nat.zero_le _, fun m nm => ⟨(by show 2 ≤ 1000; decide), fun a na => ⟨a, _, _, rfl, upd_same, fun d nd ne => ⟨rfl, d, _, ?_, upd_same, ?_, ?_⟩⟩⟩⟩
      · rw [upd_ne ne.symm, upd_same]
      · rw [upd_ne ne] at nd
        exact nd
      · rw [upd_ne ne] at nd
        have sm := made_heap (CX := CX) (n := .int n) (mv := .ref m) na nd ne
        refine kF hb _ d m ((same_upd nm).trans sm) upd_same (sm _ _ upd_same)
    · have hb : b = true := by simpa using c
      exact kT hb
/-! ### most_of -/
theorem scMost : FnScope ["offs"] ["offs"] (defScope sMost) := ⟨rfl, rfl, rfl, by decide +kernel, rfl, by decide +kernel, by decide +kernel⟩
def spMost : Sp := fun vs H Q _ => ∃ (o : Addr) (xs : List Nat), vs = [.ref o] ∧ H o = some (.lst (nV xs)) ∧ xs.length ≤ 1000 ∧ ∀ H', Same H H' → Q (.int ((xs.foldl max 0 : Nat) : Int)) H'
theorem ok_most {f : Addr} {fd : FuncData} (F : Fun K "most_of" "most_of" sMost f fd) (T : Txt K mg CW CR CX CH fX) : FnOk P w K mg base CX0 1 f fd ["offs"] spMost := by
  refine F.ok scMost (fun vs H Q E h => ?_) (fun cdv A outer s H vs Q E hr h => ?_)
  · obtain ⟨o, xs, rfl, _⟩ := h
    rfl
  · obtain ⟨o, xs, rfl, ho, hz, k⟩ := h
    refine ⟨_, pss_one (ps_ret (pe_callB (cr_max rfl) (by rfl) T.max (by decide +kernel) (pa_cons (pe_op op_cat (pe_lst (pa_cons pe_int pa_nil)) (pv 0)) pa_nil))), ?_⟩
    refine ⟨(by show 1 ≤ sizeLine; decide), fun t nt => ?_⟩
    have s1 := same_upd (o := .lst [.int 0]) nt
    refine ⟨_, rfl, t, o, _, _, rfl, rfl, upd_same, s1 _ _ ho, ?_, fun p np => ?_⟩
    · rw [nV_len]
      exact small' (by show 1 + _ ≤ _; omega)
    · refine ⟨p, 0 :: nI xs, rfl, SqL.of ?_, (by show 0 < (nI xs).length + 1; omega), fun m hm hle => ?_⟩
      · rw [upd_same, List.map_cons, nV_nI]
        rfl
      · have e : m = ((xs.foldl max 0 : Nat) : Int) := max_is hm hle
        rw [e]
        exact k _ (s1.trans (same_upd np))
/-! ### Holder -/
theorem scHInit : FnScope ["self"] ["self"] (defScope sHInit) := ⟨rfl, rfl, rfl, by decide +kernel, rfl, by decide +kernel, by decide +kernel⟩
def spHInit (CW CR CH : Addr) : Sp := fun vs H Q _ => ∃ (p dx : Addr), vs = [.ref p] ∧ H p = some (.ins CH dx []) ∧
  ∀ H' l, HAt CW CR CH H' p l Sj11.init → H l = none → (∀ b o, H b = some o → b ≠ p → H' b = some o) → Q .non H'
theorem rat_new {H : Hp} {x dx l : Addr} {n : Nat} (ho : H x = some (.ins CR dx (rF ⟨n, []⟩ l))) (hl : H l = some (.lst [])) : RAt CW CR H x l ⟨n, []⟩ :=
  ⟨⟨dx, ho⟩, [], hl, rfl, fun i hi => absurd hi (Nat.not_lt_zero _)⟩
theorem ok_hinit {f fR : Addr} {fd fdR : FuncData} (F : Fun K "__init__" "Holder.__init__" sHInit f fd) (T : Txt K mg CW CR CX CH fX) (FR : Fun K "__init__" "RankList.__init__" sRInit fR fdR) (bR : Binds K fdR ["self", "worth"] []) (MR : Mk K CR fR) :
    FnOk P w K mg base CX0 3 f fd ["self"] (spHInit CW CR CH) := by
  have GR : FnOk P w K mg base CX0 1 fR fdR ["self", "worth"] (spRInit CR) := ok_rinit FR T
  refine F.ok scHInit (fun vs H Q E h => ?_) (fun cdv A outer s H vs Q E hr h => ?_)
  · obtain ⟨p, dx, rfl, _⟩ := h
    rfl
  · obtain ⟨p, dx, rfl, hp, k⟩ := h
    refine ⟨_, pss_one (ps_fld (pv 0) (pe_make MR GR hr rfl T.gR bR .nil pass0 (pa_cons pe_int pa_nil)) rfl), ?_⟩
    intro x d nx nd ne
    refine ⟨x, d, 0, rfl, upd_same, fun l nl => ⟨rfl, ?_⟩⟩
    have hlx : l ≠ x := fun z => by rw [z, upd_same] at nl; cases nl
    have nl2 := nl
    rw [upd_ne hlx] at nl2
    have hld : l ≠ d := fun z => by rw [z, upd_same] at nl2; cases nl2
    rw [upd_ne hld] at nl2
    have px : p ≠ x := ne_of_none hp nx
    have pd : p ≠ d := ne_of_none hp nd
    have pl : p ≠ l := ne_of_none hp nl2
    refine ⟨_, rfl, p, CH, dx, [], rfl, ?_, T.clH, T.nRk, (by show 0 < 1000; decide), ?_⟩
    · rw [upd_ne px, upd_ne pl, upd_ne px, upd_ne pd]
      exact hp
    · refine k _ l ⟨x, dx, upd_same, ?_, px.symm⟩ nl2 fun b o q hb => ?_
      · refine rat_new (dx := d) ?_ ?_
        · rw [upd_ne px.symm, upd_same]
        · rw [upd_ne pl.symm, upd_ne hlx, upd_same]
      · rw [upd_ne hb, upd_ne (ne_of_none q nx), upd_ne (ne_of_none q nl2), upd_ne (ne_of_none q nx), upd_ne (ne_of_none q nd)]
        exact q
/-! ### begins -/
theorem scBegins : FnScope ["holder", "worth"] ["holder", "worth"] (defScope sBegins) := ⟨rfl, rfl, rfl, by decide +kernel, rfl, by decide +kernel, by decide +kernel⟩
def spBegins (CW CR CX CH : Addr) : Sp := fun vs H Q E => ∃ (h l : Addr) (r : Sj11.Ranks) (n : Nat), vs = [.ref h, .int (n : Int)] ∧ Op CW CR CX CH H h l r (.begins n) Q E
theorem relI' {i : Int} {t : Tok} : RelV (.int i) (.int i t) := ⟨t, rfl⟩
theorem ok_begins {f fN fR : Addr} {fd fdN fdX fdR : FuncData} (F : Fun K "begins" "begins" sBegins f fd) (T : Txt K mg CW CR CX CH fX)
    (FN : Fun K "need" "need" sNeed fN fdN) (bN : Binds K fdN ["fulfilled", "number"] []) (gN : mg "need" = some (.ref fN)) (FX : Fun K "__init__" "Refused.__init__" sXInit fX fdX) (bX : Binds K fdX ["self", "number", "more"] [])
    (FR : Fun K "__init__" "RankList.__init__" sRInit fR fdR) (bR : Binds K fdR ["self", "worth"] []) (MR : Mk K CR fR) :
    FnOk P w K mg base (L2.CX P w) 4 f fd ["holder", "worth"] (spBegins CW CR CX CH) := by
  have GR : FnOk P w K mg base CX0 1 fR fdR ["self", "worth"] (spRInit CR) := ok_rinit FR T
  have GN : FnOk P w K mg base (L2.CX P w) 3 fN fdN ["fulfilled", "number"] (spNeed CX) := ok_need (fXi := fX) FN T FX bX
  refine F.okX scBegins (fun vs H Q E h => ?_) (fun cdv A outer s H vs Q E hr h => ?_)
  · obtain ⟨h, l, r, n, rfl, _⟩ := h
    rfl
  · obtain ⟨h, l, r, n, rfl, ⟨⟨a, dx, hh, hR, nah⟩, fine, kD, kR⟩⟩ := h
    obtain ⟨t, ht⟩ := T.cWorth
    refine ⟨_, pss_cons (ps_expr (pe_call GN hr rfl gN FN.kp bN .nil (passes_call (takes_of rfl rfl rfl rfl) (fun _ _ _ _ z => z)) (pa_cons (pe_cmpR op_le (pv 1) (pe_glob rfl ht relI') (nomark _)) (pa_cons (pe_un un_neg pe_int) pa_nil))))
      (pss_cons (ps_fld (pv 0) (pe_make MR GR (hr.mono (by decide)) rfl T.gR bR .nil pass0 (pa_cons (pv 1) pa_nil)) rfl)
      (pss_one (ps_ret (pe_lst (pa_cons pe_int pa_nil))))), ?_⟩
    refine ⟨_, rfl, _, _, rfl, rfl, _, rfl, _, _, rfl, fun c => ?_, fun c => ?_⟩
    · have c' : ¬ Sj11.WORTH < n := by have := of_decide_eq_true c; show ¬ 30 < n; omega
      have st : Sj11.step r (.begins n) = (⟨n, []⟩, Sj11.ok 0) := if_neg c'
      rw [st] at kD
      refine ⟨_, rfl, ?_⟩
      intro x d nx nd ne
      refine ⟨x, d, n, rfl, upd_same, fun l2 nl => ⟨rfl, ?_⟩⟩
      have hlx : l2 ≠ x := fun z => by rw [z, upd_same] at nl; cases nl
      have nl2 := nl
      rw [upd_ne hlx] at nl2
      have hld : l2 ≠ d := fun z => by rw [z, upd_same] at nl2; cases nl2
      rw [upd_ne hld] at nl2
      have px : h ≠ x := ne_of_none hh nx
      have pd : h ≠ d := ne_of_none hh nd
      have pl : h ≠ l2 := ne_of_none hh nl2
      refine ⟨_, rfl, h, CH, dx, [(("ranks" : Str), .ref a)], rfl, ?_, T.clH, T.nRk, (by show 1 < 1000; decide), ?_⟩
      · rw [upd_ne px, upd_ne pl, upd_ne px, upd_ne pd]
        exact hh
      · refine ⟨(by show 1 ≤ sizeLine; decide), fun p np => ?_⟩
        have nph : h ≠ p := ne_of_none upd_same np
        have fld : putF "ranks" (.ref x) [(("ranks" : Str), .ref a)] = [(("ranks" : Str), .ref x)] := put_here
        rw [fld] at np ⊢
        have keep : ∀ b o, H b = some o → b ≠ h → (upd (upd (upd (upd (upd H d (.own x)) x (.ins CR d [])) l2 (.lst [])) x (.ins CR d (rF ⟨n, []⟩ l2))) h (.ins CH dx [(("ranks" : Str), .ref x)])) b = some o := fun b o q hb => by
          rw [upd_ne hb, upd_ne (ne_of_none q nx), upd_ne (ne_of_none q nl2), upd_ne (ne_of_none q nx), upd_ne (ne_of_none q nd)]
          exact q
        have npx : x ≠ p := ne_of_none (o := .ins CR d (rF ⟨n, []⟩ l2)) (by rw [upd_ne px.symm, upd_same]) np
        have npl : l2 ≠ p := ne_of_none (o := .lst []) (by rw [upd_ne pl.symm, upd_ne hlx, upd_same]) np
        refine kD _ l2 p ⟨x, dx, by rw [upd_ne nph, upd_same], ?_, px.symm⟩ (.inr nl2) (fun b o q hb _ => ?_) ?_ upd_same
        · refine rat_new (dx := d) ?_ ?_
          · rw [upd_ne npx, upd_ne px.symm, upd_same]
          · rw [upd_ne npl, upd_ne pl.symm, upd_ne hlx, upd_same]
        · have nbp : b ≠ p := ne_of_none (keep b o q hb) np
          rw [upd_ne nbp]
          exact keep b o q hb
        · cases e : H p with
          | none => rfl
          | some o =>
            have := keep p o e nph.symm
            rw [np] at this
            cases this
    · have c' : Sj11.WORTH < n := by have := of_decide_eq_false c; show 30 < n; omega
      have st : Sj11.step r (.begins n) = (r, Sj11.ok (-1)) := if_pos c'
      rw [st] at kR
      intro H' d m sm hd hm
      exact kR rfl H' d m (-1) [] rfl sm hd hm (by decide)
end
end Nr
namespace Nr
open PySem PySem.Spec PyProof.Rows L2
theorem of_snoc (r : Sj11.Ranks) (x : Sj11.Wrestler) (i : Nat) (h : i < r.count + 1) : (⟨r.worth, r.wrestlers ++ [x]⟩ : Sj11.Ranks).of_ i = if i < r.count then r.of_ i else x := by
  unfold Sj11.Ranks.of_
  show (r.wrestlers ++ [x]).getD i ⟨0, 0⟩ = _
  unfold Sj11.Ranks.count at h ⊢
  rw [List.getD_eq_getElem?_getD]
  by_cases c : i < r.wrestlers.length
  · rw [if_pos c, List.getElem?_append_left c, List.getD_eq_getElem?_getD]
  · rw [if_neg c, List.getElem?_append_right (by omega), show i - r.wrestlers.length = 0 by omega]
    rfl
section
variable {P : Program} {w : World} {K : PySem.W.Frag} {mg : Str → Option Value} {base : Heap} {CW CR CX CH fX : Addr}
/-! ### wrestler -/
theorem scWrestler : FnScope ["holder", "won", "lost"] ["holder", "won", "lost"] (defScope sWrestler) := ⟨rfl, rfl, rfl, by decide +kernel, rfl, by decide +kernel, by decide +kernel⟩
def spWrestler (CW CR CX CH : Addr) : Sp := fun vs H Q E => ∃ (h l : Addr) (r : Sj11.Ranks) (x : Sj11.Wrestler), vs = [.ref h, .int (x.wins : Int), .int (x.losses : Int)] ∧ Op CW CR CX CH H h l r (.wrestler x) Q E
theorem ok_wrestler {f fN fW : Addr} {fd fdN fdX fdW : FuncData} (F : Fun K "wrestler" "wrestler" sWrestler f fd) (T : Txt K mg CW CR CX CH fX)
    (FN : Fun K "need" "need" sNeed fN fdN) (bN : Binds K fdN ["fulfilled", "number"] []) (gN : mg "need" = some (.ref fN)) (FX : Fun K "__init__" "Refused.__init__" sXInit fX fdX) (bX : Binds K fdX ["self", "number", "more"] [])
    (FW : Fun K "__init__" "Wrestler.__init__" sWInit fW fdW) (bW : Binds K fdW ["self", "won", "lost"] []) (MW : Mk K CW fW) :
    FnOk P w K mg base (L2.CX P w) 4 f fd ["holder", "won", "lost"] (spWrestler CW CR CX CH) := by
  have GW : FnOk P w K mg base CX0 1 fW fdW ["self", "won", "lost"] (spWInit CW) := ok_winit FW T
  have GN : FnOk P w K mg base (L2.CX P w) 3 fN fdN ["fulfilled", "number"] (spNeed CX) := ok_need (fXi := fX) FN T FX bX
  refine F.okX scWrestler (fun vs H Q E h => ?_) (fun cdv A outer s H vs Q E hr h => ?_)
  · obtain ⟨h, l, r, x, rfl, _⟩ := h
    rfl
  · obtain ⟨h, l, r, x, rfl, ⟨⟨a, dx, hh, hR, nah⟩, fine, kD, kR⟩⟩ := h
    obtain ⟨t, ht⟩ := T.cBouts
    obtain ⟨t2, ht2⟩ := T.cMost
    refine ⟨_, pss_cons (ps_expr (pe_call GN hr rfl gN FN.kp bN .nil (passes_call (takes_of rfl rfl rfl rfl) (fun _ _ _ _ z => z)) (pa_cons (pe_cmpR op_le (pe_op op_add (pv 1) (pv 2)) (pe_glob rfl ht relI) (nomark _)) (pa_cons (pe_un un_neg pe_int) pa_nil))))
      (pss_cons (ps_expr (pe_call GN hr rfl gN FN.kp bN .nil (passes_call (takes_of rfl rfl rfl rfl) (fun _ _ _ _ z => z)) (pa_cons (pe_cmpR op_lt (pe_callB call_len_seq (by rfl) T.len PySem.boot_len (pa_cons (pe_fld (pe_fld (pv 0) rfl) rfl) pa_nil)) (pe_glob rfl ht2 relI) (nomark _)) (pa_cons (pe_un un_neg pe_int) pa_nil))))
      (pss_cons (ps_expr (pe_bm PySem.F.plainAttrs_list PySem.F.slot_list_append PySem.F.type_list_append mt_append (pe_fld (pe_fld (pv 0) rfl) rfl) (pa_cons (pe_make MW GW (hr.mono (by decide)) rfl T.gW bW .nil pass0 (pa_cons (pv 1) (pa_cons (pv 2) pa_nil))) pa_nil)))
      (pss_one (ps_ret (pe_lst (pa_cons (pe_op op_sub (pe_callB call_len_seq (by rfl) T.len PySem.boot_len (pa_cons (pe_fld (pe_fld (pv 0) rfl) rfl) pa_nil)) pe_int) pa_nil)))))), ?_⟩
    have fc := fine.count
    obtain ⟨⟨d, ho⟩, ws, hl, hlen, hw⟩ := id hR
    refine ⟨_, rfl, _, rfl, _, _, rfl, rfl, _, _, rfl, rfl, _, rfl, _, _, rfl, fun c => ?_, fun c => ?_⟩
    · have c' : ¬ Sj11.BOUTS < x.wins + x.losses := by have := of_decide_eq_true c; show ¬ 15 < _; omega
      refine ⟨_, rfl, h, CH, dx, _, _, rfl, hh, T.clH, T.nRk, lk_here, a, CR, d, _, _, rfl, ho, T.clR, T.nWr, rF_wr r l, l, _, rfl, .inl (SqL.of hl), ?_⟩
      rw [List.length_map, hlen]
      refine ⟨_, _, rfl, rfl, _, rfl, _, _, rfl, fun c2 => ?_, fun c2 => ?_⟩
      · have c3 : ¬ Sj11.COUNT ≤ r.count := by have := of_decide_eq_true c2; show ¬ 6 ≤ _; omega
        have st : Sj11.step r (.wrestler x) = ({ r with wrestlers := r.wrestlers ++ [x] }, Sj11.ok ((r.count : Nat) : Int)) := (if_neg c').trans (if_neg c3)
        rw [st] at kD
        refine ⟨_, rfl, h, CH, dx, _, _, rfl, hh, T.clH, T.nRk, lk_here, a, CR, d, _, _, rfl, ho, T.clR, T.nWr, rF_wr r l, .inl ⟨rfl, _, SqL.of hl⟩, ?_⟩
        refine ⟨_, rfl, _, rfl, fun y e ny ne nye => ⟨y, e, x, rfl, upd_same, rfl, ?_⟩⟩
        have s2 : Same H (upd (upd (upd H e (.own y)) y (.ins CW e [])) y (.ins CW e (wF x))) := fun b o q => by
          rw [upd_ne (ne_of_none q ny), upd_ne (ne_of_none q ny), upd_ne (ne_of_none q ne)]
          exact q
        have hy : (upd (upd (upd H e (.own y)) y (.ins CW e [])) y (.ins CW e (wF x))) y = some (.ins CW e (wF x)) := upd_same
        generalize upd (upd (upd H e (.own y)) y (.ins CW e [])) y (.ins CW e (wF x)) = H2 at s2 hy
        refine ⟨l, _, _, rfl, rfl, s2 _ _ hl, ?_, ?_⟩
        · rw [List.length_map, hlen]
          exact small (by omega)
        · have hl2 := s2 _ _ hl
          have nhl : h ≠ l := ne_of (s2 _ _ hh) hl2 (by intro z; cases z)
          have nal : a ≠ l := ne_of (s2 _ _ ho) hl2 (by intro z; cases z)
          have nyl : y ≠ l := ne_of hy hl2 (by intro z; cases z)
          have hh3 : (upd H2 l (.lst (ws.map V.ref ++ [.ref y]))) h = some (.ins CH dx [(("ranks" : Str), .ref a)]) := by rw [upd_ne nhl]; exact s2 _ _ hh
          have ho3 : (upd H2 l (.lst (ws.map V.ref ++ [.ref y]))) a = some (.ins CR d (rF r l)) := by rw [upd_ne nal]; exact s2 _ _ ho
          refine ⟨_, rfl, h, CH, dx, _, _, rfl, hh3, T.clH, T.nRk, lk_here, a, CR, d, _, _, rfl, ho3, T.clR, T.nWr, rF_wr r l, l, _, rfl, .inl (SqL.of upd_same), ?_⟩
          rw [List.length_append, List.length_map, hlen]
          refine ⟨_, _, rfl, rfl, (by show 1 ≤ sizeLine; decide), fun p np => ?_⟩
          have RAt3 : RAt CW CR (upd H2 l (.lst (ws.map V.ref ++ [.ref y]))) a l ⟨r.worth, r.wrestlers ++ [x]⟩ := by
            refine ⟨⟨d, ho3⟩, ws ++ [y], by rw [upd_same, List.map_append]; rfl, ?_, fun i hi => ?_⟩
            · rw [List.length_append, hlen]
              show r.wrestlers.length + 1 = (r.wrestlers ++ [x]).length
              rw [List.length_append]
              rfl
            · have hi' : i < r.count + 1 := by
                have : (r.wrestlers ++ [x]).length = r.wrestlers.length + 1 := by rw [List.length_append]; rfl
                have hi2 : i < (r.wrestlers ++ [x]).length := hi
                unfold Sj11.Ranks.count
                omega
              rw [of_snoc r x i hi']
              by_cases ci : i < r.count
              · rw [if_pos ci]
                obtain ⟨b, eb, db, hb⟩ := hw i ci
                have nbl : b ≠ l := ne_of (s2 _ _ hb) hl2 (by intro z; cases z)
                exact ⟨b, by rw [List.getElem?_append_left (by omega)]; exact eb, db, by rw [upd_ne nbl]; exact s2 _ _ hb⟩
              · rw [if_neg ci]
                refine ⟨y, ?_, e, by rw [upd_ne nyl]; exact hy⟩
                rw [List.getElem?_append_right (by omega), show i - ws.length = 0 by omega]
                rfl
          have sp := same_upd (o := .lst [.int (((r.count + 1 : Nat) : Int) - 1)]) np
          refine kD _ l p ⟨a, dx, sp _ _ hh3, RAt3.same sp, nah⟩ (.inl rfl) (fun b o q _ hb => sp _ _ (by rw [upd_ne hb]; exact s2 _ _ q)) ?_ ?_
          · cases eq : H p with
            | none => rfl
            | some o =>
              by_cases z : p = l
              · rw [z, upd_same] at np
                cases np
              · rw [upd_ne z, s2 _ _ eq] at np
                cases np
          · show upd _ p _ p = _
            rw [upd_same]
            show some (HO.lst [V.int (((r.count + 1 : Nat) : Int) - 1)]) = some (HO.lst [V.int (r.count : Int)])
            rw [show ((r.count + 1 : Nat) : Int) - 1 = (r.count : Int) by omega]
      · have c3 : Sj11.COUNT ≤ r.count := by have := of_decide_eq_false c2; show 6 ≤ _; omega
        have st : Sj11.step r (.wrestler x) = (r, Sj11.ok (-5)) := (if_neg c').trans (if_pos c3)
        rw [st] at kR
        intro H' d m sm hd hm
        exact kR rfl H' d m (-5) [] rfl sm hd hm (by decide)
    · have c' : Sj11.BOUTS < x.wins + x.losses := by have := of_decide_eq_false c; show 15 < _; omega
      have st : Sj11.step r (.wrestler x) = (r, Sj11.ok (-1)) := if_pos c'
      rw [st] at kR
      intro H' d m sm hd hm
      exact kR rfl H' d m (-1) [] rfl sm hd hm (by decide)
/-! ### check -/
theorem dpAll_ints {H : Hp} : ∀ ns : List Int, DpAll K H (ns.map V.int) (ns.map PyData.int)
  | [] => .nil
  | n :: ns => .cons (.int n) (dpAll_ints ns)
theorem eqv_ints (ns ms : List Int) : PyData.eqv (.list (ns.map PyData.int)) (.list (ms.map PyData.int)) = decide (ns = ms) := by
  show PyData.eqvAll _ _ = _
  induction ns generalizing ms with
  | nil => cases ms <;> rfl
  | cons n ns ih =>
    cases ms with
    | nil => rfl
    | cons m ms =>
      show ((n == m) && PyData.eqvAll (ns.map PyData.int) (ms.map PyData.int)) = _
      rw [ih ms, Bool.eq_iff_iff, Bool.and_eq_true, beq_iff_eq, decide_eq_true_iff, decide_eq_true_iff, List.cons.injEq]
theorem rgV_nI (n : Nat) : rgV 0 (n : Int) = (nI (List.range n)).map V.int := by
  unfold rgV nI
  rw [List.map_map, show ((n : Int) - 0).toNat = n by omega]
  refine List.map_congr_left fun i _ => ?_
  show V.int (0 + (i : Int)) = V.int (i : Int)
  rw [Int.zero_add]
theorem scCheck : FnScope ["holder", "new", "ranks", "wrong", "offs"] ["holder", "new"] (defScope sCheck) := ⟨rfl, rfl, rfl, by decide +kernel, rfl, by decide +kernel, by decide +kernel⟩
def spCheck (K : PySem.W.Frag) (CW CR CX CH : Addr) : Sp := fun vs H Q E => ∃ (h l g : Addr) (r : Sj11.Ranks) (xs : List Nat), vs = [.ref h, .ref g] ∧ SqL K H g (nV xs) ∧ xs.length ≤ 8 ∧ Op CW CR CX CH H h l r (.check xs) Q E
theorem ok_check {f fN fF fM fO fE fMo : Addr} {fd fdN fdX fdF fdM fdO fdE fdMo : FuncData} (F : Fun K "check" "check" sCheck f fd) (T : Txt K mg CW CR CX CH fX)
    (FN : Fun K "need" "need" sNeed fN fdN) (bN : Binds K fdN ["fulfilled", "number"] []) (gN : mg "need" = some (.ref fN)) (FX : Fun K "__init__" "Refused.__init__" sXInit fX fdX) (bX : Binds K fdX ["self", "number", "more"] [])
    (FM : Fun K "may_have" "Wrestler.may_have" sMay fM fdM) (bM : Binds K fdM ["self", "old", "new"] []) (mM : Meth K CW "may_have" fM)
    (FF : Fun K "first_wrong" "RankList.first_wrong" sFirst fF fdF) (bF : Binds K fdF ["self", "new"] []) (mF : Meth K CR "first_wrong" fF)
    (FE : Fun K "earned" "RankList.earned" sEarned fE fdE) (bE : Binds K fdE ["self", "rank"] []) (mE : Meth K CR "earned" fE)
    (FO : Fun K "offs" "RankList.offs" sOffs fO fdO) (bO : Binds K fdO ["self", "new"] []) (mO : Meth K CR "offs" fO)
    (FMo : Fun K "most_of" "most_of" sMost fMo fdMo) (bMo : Binds K fdMo ["offs"] []) (gMo : mg "most_of" = some (.ref fMo)) :
    FnOk P w K mg base (L2.CX P w) 4 f fd ["holder", "new"] (spCheck K CW CR CX CH) := by
  have GX : FnOk P w K mg base CX0 1 fX fdX ["self", "number", "more"] (spXInit CX) := ok_xinit FX T
  have GN : FnOk P w K mg base (L2.CX P w) 3 fN fdN ["fulfilled", "number"] (spNeed CX) := ok_need (fXi := fX) FN T FX bX
  have GF : FnOk P w K mg base CX0 2 fF fdF ["self", "new"] (spFirst K CW CR) := ok_first FF T FM bM mM
  have GO : FnOk P w K mg base CX0 2 fO fdO ["self", "new"] (spOffs K CW CR) := ok_offs FO T FE bE mE
  have GMo : FnOk P w K mg base CX0 1 fMo fdMo ["offs"] spMost := ok_most FMo T
  refine F.okX scCheck (fun vs H Q E h => ?_) (fun cdv A outer s H vs Q E hr h => ?_)
  · obtain ⟨h, l, g, r, xs, rfl, _⟩ := h
    rfl
  · obtain ⟨h, l, g, r, xs, rfl, hg, hz, ⟨⟨a, dx, hh, hR, nah⟩, fine, kD, kR⟩⟩ := h
    have nd := scCheck.nd
    refine ⟨_, pss_cons (ps_set (i := 2) nd rfl (Or.inl rfl) (pe_fld (pv 0) rfl))
      (pss_cons (ps_expr (pe_call GN hr rfl gN FN.kp bN .nil (passes_call (takes_of rfl rfl rfl rfl) (fun _ _ _ _ z => z)) (pa_cons (pe_cmpR (op_eqD hr.units) (pe_callB cr_sorted (by rfl) T.sorted (by decide +kernel) (pa_cons (pv 1) pa_nil))
          (pe_listRg rfl rfl T.list (prg_1 rfl T.range (pe_callB call_len_seq (by rfl) T.len PySem.boot_len (pa_cons (pe_fld (pv 2) rfl) pa_nil)))) (nomark _)) (pa_cons (pe_un un_neg pe_int) pa_nil))))
      (pss_cons (ps_set (i := 3) nd rfl (Or.inl rfl) (pe_meth (pv 2) T.clR mF GF (hr.mono (by decide)) bF .nil pass0 (pa_cons (pv 1) pa_nil)))
      (pss_cons (ps_if (pt_cmpR op_notN (pv 3) pe_non (nomark _)) (pss_one (ps_raise rfl (takes_of rfl rfl rfl rfl) (pmk_oex T.ox T.iX T.tX GX (hr.mono (by decide)) bX .nil pass0 rfl T.gX (pa_cons (pe_un un_neg pe_int) (pa_cons (pe_lst (pa_cons (pv 3) pa_nil)) pa_nil))))) pss_nil)
      (pss_cons (ps_set (i := 4) nd rfl (Or.inl rfl) (pe_meth (pv 2) T.clR mO GO (hr.mono (by decide)) bO .nil pass0 (pa_cons (pv 1) pa_nil)))
      (pss_one (ps_ret (pe_lst (pa_cons (pe_callB (cr_sum rfl) (by rfl) T.sum (by decide +kernel) (pa_cons (pv 4) pa_nil)) (pa_cons (pe_call GMo (hr.mono (by decide)) rfl gMo FMo.kp bMo .nil pass0 (pa_cons (pv 4) pa_nil)) pa_nil))))))))), ?_⟩
    have fc := fine.count
    refine ⟨_, rfl, h, CH, dx, _, _, rfl, hh, T.clH, T.nRk, lk_here, ?_⟩
    -- sorted(new)
    refine ⟨_, rfl, g, nI xs, rfl, by rw [nV_nI]; exact hg, ?_, fun ns p perm srt np => ?_⟩
    · unfold nI
      rw [List.length_map]
      omega
    have s1 := same_upd (o := .lst (ns.map V.int)) np
    have e1 : (upd H p (.lst (ns.map V.int))) p = some (.lst (ns.map V.int)) := upd_same
    generalize upd H p (.lst (ns.map V.int)) = H1 at s1 e1
    obtain ⟨⟨d, ho⟩, ws, hl, hlen, hw⟩ := hR.same s1
    -- list(range(..))
    refine ⟨_, rfl, a, CR, d, _, _, rfl, ho, T.clR, T.nWr, rF_wr r l, l, _, rfl, .inl (SqL.of hl), ?_⟩
    rw [List.length_map, hlen]
    refine ⟨_, rfl, RgOk.of_le (by omega) (by omega) (by omega) (by omega), fun q nq => ?_⟩
    have s2 := same_upd (o := .lst (rgV 0 (r.count : Int))) nq
    have e2 : (upd H1 q (.lst (rgV 0 (r.count : Int)))) q = some (.lst (rgV 0 (r.count : Int))) := upd_same
    generalize upd H1 q (.lst (rgV 0 (r.count : Int))) = H2 at s2 e2
    rw [rgV_nI] at e2
    refine ⟨.list (ns.map PyData.int), .list ((nI (List.range r.count)).map PyData.int), .lst (SqL.of (s2 _ _ e1)) (dpAll_ints _), .lst (SqL.of e2) (dpAll_ints _), PySem.W.shaped_ints _, PySem.W.shaped_ints _, ?_⟩
    rw [eqv_ints, sorted_told r xs ns perm srt]
    have s12 := s1.trans s2
    refine ⟨_, rfl, _, _, rfl, fun c => ?_, fun c => ?_⟩
    · -- it is a list
      have hx : xs.length = r.count := by
        have := ((told_iff r xs).mp c).length_eq
        rw [List.length_range] at this
        exact this
      have st : Sj11.step r (.check xs) = (r, match r.wrong xs with
          | some i => ⟨-6, Sj11.ints [i]⟩
          | none => ⟨((r.cost xs : Nat) : Int), Sj11.ints [r.worst xs]⟩) := if_neg (by rw [c]; decide)
      rw [st] at kD kR
      have hR2 := hR.same s12
      obtain ⟨d2, ho2⟩ := hR2.obj
      refine ⟨_, rfl, a, d2, _, rfl, ho2, rF_no r l _ (by decide +kernel) (by decide +kernel), _, rfl, a, l, g, r, xs, rfl, hR2, fine, s12.seq hg, hx, ?_⟩
      cases ew : r.wrong xs with
      | some i =>
        rw [ew] at kR
        refine ⟨_, rfl, rfl, _, rfl, ?_⟩
        refine ite2 (fun _ => ?_) (fun z => absurd rfl z)
        refine ⟨_, rfl, _, rfl, (by show 1 ≤ sizeLine; decide), fun m nm => ⟨(by show 2 ≤ 1000; decide), fun y ny => ⟨y, _, _, rfl, upd_same, fun e ne nye => ⟨rfl, e, _, ?_, upd_same, ?_, ?_⟩⟩⟩⟩
        · rw [upd_ne nye.symm, upd_same]
        · rw [upd_ne nye] at ne
          exact ne
        · rw [upd_ne nye] at ne
          have sm := made_heap (CX := CX) (n := .int (-6)) (mv := .ref m) ny ne nye
          exact kR rfl _ e m (-6) [(i : Int)] rfl (s12.trans ((same_upd nm).trans sm)) upd_same (sm _ _ upd_same) (by show 1 ≤ 1000; decide)
      | none =>
        rw [ew] at kD
        refine ⟨_, rfl, rfl, _, rfl, ?_⟩
        refine ite2 (fun z => absurd z (by decide)) (fun _ => ?_)
        refine ⟨_, rfl, a, d2, _, rfl, ho2, rF_no r l _ (by decide +kernel) (by decide +kernel), _, rfl, a, l, g, r, xs, rfl, hR2, fine, s12.seq hg, hx, fun H3 o s3 no ho3 => ?_⟩
        refine ⟨_, rfl, o, nI (offs r xs), rfl, SqL.of (by rw [nV_nI]; exact ho3), _, rfl, o, offs r xs, rfl, ho3, by rw [offs_len]; omega, fun H4 s4 => ?_⟩
        refine ⟨(by show 2 ≤ sizeLine; decide), fun p2 np2 => ?_⟩
        have s14 := s12.trans (s3.trans s4)
        have e3 : (nI (offs r xs)).sum = ((r.cost xs : Nat) : Int) := sum_cast (offs r xs)
        rw [e3]
        refine kD _ l p2 ⟨a, dx, same_upd np2 _ _ (s14 _ _ hh), hR.same (s14.trans (same_upd np2)), nah⟩ (.inl rfl) (fun b o q _ _ => same_upd np2 _ _ (s14 _ _ q)) (s14.free np2) ?_
        exact upd_same
    · have st : Sj11.step r (.check xs) = (r, Sj11.ok (-1)) := if_pos c
      rw [st] at kR
      intro H' d m sm hd hm
      exact kR rfl H' d m (-1) [] rfl (s12.trans sm) hd hm (by decide)
end
end Nr
namespace Nr
open PySem PySem.Spec PyProof.Rows L2
/-- at D pairs of a measure and a list -/
structure MsIn (f : List Nat → Nat) (H : Hp) (D : Addr) (ts : List Addr) (L : List (List Nat)) : Prop where
  at_ : H D = some (.lst (ts.map V.ref))
  len : ts.length = L.length
  it : ∀ (i : Nat) (l : List Nat), L[i]? = some l → ∃ t b, ts[i]? = some t ∧ H t = some (.tup [.int ((f l : Nat) : Int), .ref b]) ∧ b ≠ D ∧ H b = some (.lst (nV l))
/-- an answer of best or fair -/
def bestL (y : Sj11.Best) : List Int := (y.far : Int) :: nI (y.many :: y.row)
theorem told_best (y : Sj11.Best) : told (Sj11.toldBest (some y)) = bestL y := rfl
theorem take_snoc {α : Type} {l : List α} {i : Nat} {x : α} (h : l[i]? = some x) : l.take (i + 1) = l.take i ++ [x] := by
  rw [List.take_add_one, h]
  rfl
theorem MsIn.push {f : List Nat → Nat} {H : Hp} {D t b : Addr} {ts : List Addr} {L : List (List Nat)} {l : List Nat} (h : MsIn f H D ts L) (ht : H t = some (.tup [.int ((f l : Nat) : Int), .ref b])) (nb : b ≠ D) (hb : H b = some (.lst (nV l))) :
    MsIn f (upd H D (.lst (ts.map V.ref ++ [.ref t]))) D (ts ++ [t]) (L ++ [l]) := by
  have nt : t ≠ D := ne_of ht h.at_ (by intro z; cases z)
  refine ⟨by rw [upd_same, List.map_append]; rfl, by rw [List.length_append, List.length_append, h.len]; rfl, fun i x e => ?_⟩
  by_cases hi : i < L.length
  · rw [List.getElem?_append_left hi] at e
    obtain ⟨u, c, e1, e2, e3, e4⟩ := h.it i x e
    have nu : u ≠ D := ne_of e2 h.at_ (by intro z; cases z)
    exact ⟨u, c, by rw [List.getElem?_append_left (by rw [h.len]; exact hi)]; exact e1, by rw [upd_ne nu]; exact e2, e3, by rw [upd_ne e3]; exact e4⟩
  · rw [List.getElem?_append_right (by omega)] at e
    have h0 : i - L.length = 0 := by
      obtain ⟨q, _⟩ := List.getElem?_eq_some_iff.mp e
      rw [List.length_singleton] at q
      omega
    rw [h0] at e
    have e' : l = x := Option.some.inj e
    subst e'
    refine ⟨t, b, ?_, by rw [upd_ne nt]; exact ht, nb, by rw [upd_ne nb]; exact hb⟩
    rw [List.getElem?_append_right (by rw [h.len]; omega), h.len, h0]
    rfl
theorem MsIn.same {f : List Nat → Nat} {H H' : Hp} {D : Addr} {ts : List Addr} {L : List (List Nat)} (h : MsIn f H D ts L) (s : Same H H') : MsIn f H' D ts L := by
  refine ⟨s _ _ h.at_, h.len, fun i l e => ?_⟩
  obtain ⟨t, b, e1, e2, e3, e4⟩ := h.it i l e
  exact ⟨t, b, e1, s _ _ e2, e3, s _ _ e4⟩
theorem lists_small {r : Sj11.Ranks} (h : r.count ≤ 6) : r.lists.length ≤ 46656 := by
  rw [← level_all]
  have h1 := level_size r r.count
  have h2 : r.count ^ r.count ≤ 6 ^ 6 := by
    by_cases c : r.count = 0
    · rw [c]
      decide
    · exact Nat.le_trans (Nat.pow_le_pow_left h _) (Nat.pow_le_pow_right (by decide) h)
  omega
section
variable {P : Program} {w : World} {K : PySem.W.Frag} {mg : Str → Option Value} {base : Heap} {CW CR CX CH fX : Addr}
/-! ### least -/
theorem scLeast : FnScope ["measured", "measure", "own", "pair"] ["measured"] (defScope sLeast) := ⟨rfl, rfl, rfl, by decide +kernel, rfl, by decide +kernel, by decide +kernel⟩
def spLeast : Sp := fun vs H Q _ => ∃ (D : Addr) (ts : List Addr) (f : List Nat → Nat) (L : List (List Nat)), vs = [.ref D] ∧ MsIn f H D ts L ∧ L ≠ [] ∧ L.length ≤ 50000 ∧ (∀ l ∈ L, l.length ≤ 50000) ∧
  ∀ H' p y, Same H H' → H p = none → Sj11.bestBy f L = some y → H' p = some (.lst ((bestL y).map V.int)) → Q (.ref p) H'
theorem ok_least {f : Addr} {fd : FuncData} (F : Fun K "least" "least" sLeast f fd) (T : Txt K mg CW CR CX CH fX) : FnOk P w K mg base CX0 1 f fd ["measured"] spLeast := by
  refine F.ok scLeast (fun vs H Q E h => ?_) (fun cdv A outer s H vs Q E hr h => ?_)
  · obtain ⟨D, ts, g, L, rfl, _⟩ := h
    rfl
  · obtain ⟨D, ts, g, L, rfl, hM, hne, hz, hlz, k⟩ := h
    have nd := scLeast.nd
    refine ⟨_, pss_cons (ps_set (i := 1) nd rfl (Or.inr rfl) (pe_callB (cr_min rfl) (by rfl) T.min (by decide +kernel) (pa_cons
        (pe_lc (own := [("pair", 3)]) (g := gName 3) (tt := tYes) rfl nd (pi_list (pv 0)) (blkOk_by (N := ["measured", "measure", "own", "pair"]) (sc := defScope sLeast) (by decide +kernel)) (fun _ _ _ _ _ => pg_name (i := 3) nd rfl (Or.inl rfl)) (fun _ _ _ _ _ => pts_nil)
          (fun _ _ _ _ _ => pe_ix (r := rIxT K) ix_tup (pv 3) pe_int (fun _ _ => rfl))) pa_nil)))
      (pss_cons (ps_setLc (i := 2) (own := [("pair", 3)]) (g := gName 3) rfl nd rfl rfl (sw_true rfl rfl rfl (by decide +kernel)) (pi_list (pv 0)) (blkOk_by (N := ["measured", "measure", "own", "pair"]) (sc := defScope sLeast) (by decide +kernel)) (fun _ _ _ _ _ => pg_name (i := 3) nd rfl (Or.inl rfl))
          (fun _ _ _ _ _ => pts_one (pt_cmpR op_eq (pe_ix (r := rIxT K) ix_tup (pv 3) pe_int (fun _ _ => rfl)) (pv 1) (nomark _)))
          (fun _ _ _ _ _ => pe_ix (r := rIxT K) ix_tup (pv 3) pe_int (fun _ _ => rfl)))
      (pss_one (ps_ret (pe_op op_cat (pe_lst (pa_cons (pv 1) (pa_cons (pe_callB call_len_seq (by rfl) T.len PySem.boot_len (pa_cons (pv 2) pa_nil)) pa_nil))) (pe_ix ix_list (pv 2) pe_int (fun _ _ => rfl)))))), ?_⟩
    have sq : SqL K H D (ts.map V.ref) := SqL.of hM.at_
    refine ⟨_, rfl, D, rfl, ⟨_, sq⟩, fun D1 nD1 => ?_⟩
    have item : ∀ {i : Nat} {x : V} {H' : Hp}, (ts.map V.ref)[i]? = some x → Same H H' → ∃ l t b, L[i]? = some l ∧ x = .ref t ∧ H' t = some (.tup [.int ((g l : Nat) : Int), .ref b]) ∧ H b = some (.lst (nV l)) := fun {i x H'} hx sm => by
      have hi : i < L.length := by
        rw [← hM.len, ← List.length_map (f := V.ref)]
        exact (List.getElem?_eq_some_iff.mp hx).1
      obtain ⟨t, b, e1, e2, _, e3⟩ := hM.it i _ (List.getElem?_eq_getElem hi)
      refine ⟨_, t, b, List.getElem?_eq_getElem hi, ?_, sm _ _ e2, e3⟩
      rw [List.getElem?_map, e1] at hx
      exact (Option.some.inj hx).symm
    have len : (ts.map V.ref).length = L.length := by rw [List.length_map, hM.len]
    refine lc_list (K := K) (a := D) (xs := ts.map V.ref) (fun i H' => Same H H' ∧ H' D1 = some (.lst (nV ((L.take i).map g)))) ⟨same_upd nD1, by rw [upd_same]; rfl⟩ (fun i H' _ hP => hP.1.seq sq) (fun i x H' hx hP => ?_) (fun H1 hP => ?_)
    · obtain ⟨sm, e1⟩ := hP
      obtain ⟨l, t, b, eL, rfl, et, _⟩ := item hx sm
      refine ⟨rfl, ?_⟩
      refine tyes_of ?_
      refine ⟨_, rfl, t, _, 0, _, rfl, rfl, .inl (.inl et), rfl, _, e1, ?_, ?_, ?_⟩
      · rw [nV_len, List.length_map, List.length_take]
        exact small (by omega)
      · exact fun z o q => by
          rw [upd_ne (ne_of_none q nD1)]
          exact sm _ _ q
      · rw [upd_same, take_snoc eL]
        unfold nV
        rw [List.map_append, List.map_append]
        rfl
    · obtain ⟨s1, e1⟩ := hP
      rw [len, List.take_length] at e1
      refine ⟨D1, nI (L.map g), rfl, SqL.of (by rw [nV_nI]; exact e1), ?_, fun m hm hle => ?_⟩
      · unfold nI
        rw [List.length_map, List.length_map]
        exact List.length_pos_iff.mpr hne
      · obtain ⟨mm, hmm, rfl⟩ := List.mem_map.mp hm
        have hle' : ∀ l ∈ L, mm ≤ g l := fun l hl => by
          have := hle ((g l : Nat) : Int) (List.mem_map.mpr ⟨g l, List.mem_map.mpr ⟨l, hl, rfl⟩, rfl⟩)
          omega
        obtain ⟨y, ey, y1, y2, y3⟩ := bestBy_least g L mm hmm hle'
        -- own
        have sq1 := s1.seq sq
        refine ⟨_, rfl, D, rfl, ⟨_, sq1⟩, fun D2 nD2 => ?_⟩
        refine lc_list (K := K) (a := D) (xs := ts.map V.ref) (fun i H' => Same H1 H' ∧ ∃ bs, LsIn H' D2 bs ((L.take i).filter fun l => g l == mm)) ⟨same_upd nD2, [], by rw [upd_same]; rfl, rfl, fun i l h => by cases h⟩ (fun i H' _ hP => hP.1.seq sq1) (fun i x H' hx hP => ?_) (fun H2 hP => ?_)
        · obtain ⟨sm, bs, hB⟩ := hP
          obtain ⟨l, t, b, eL, rfl, et, eb⟩ := item hx (s1.trans sm)
          refine ⟨rfl, ?_⟩
          refine ⟨_, rfl, t, _, 0, _, rfl, rfl, .inl (.inl et), rfl, _, rfl, rfl, _, rfl, ?_⟩
          refine ite2 (fun c => ?_) (fun c => ?_)
          · have c' : (g l == mm) = true := by
              have := of_decide_eq_true c
              injection this with this
              rw [beq_iff_eq]
              omega
            have nbD : b ≠ D2 := ne_of_none (s1 _ _ eb) nD2
            refine ⟨_, rfl, t, _, 1, .ref b, rfl, rfl, .inl (.inl et), rfl, _, hB.at_, ?_, ?_, bs ++ [b], ?_⟩
            · rw [List.length_map, hB.len]
              refine small (Nat.le_trans (List.length_filter_le _ _) ?_)
              rw [List.length_take]
              omega
            · exact fun z o q => by
                rw [upd_ne (ne_of_none q nD2)]
                exact sm _ _ q
            · rw [take_snoc eL, List.filter_append, List.filter_cons_of_pos (p := fun l => g l == mm) c']
              exact hB.push (sm _ _ (s1 _ _ eb)) nbD
          · have c' : ¬ (g l == mm) = true := fun z => c (decide_eq_true (by rw [beq_iff_eq] at z; rw [z]))
            refine ⟨sm, bs, ?_⟩
            rw [take_snoc eL, List.filter_append, List.filter_cons_of_neg (p := fun l => g l == mm) c']
            show LsIn H' D2 bs (_ ++ [])
            rw [List.append_nil]
            exact hB
        · obtain ⟨s2, bs, hB⟩ := hP
          rw [len, List.take_length] at hB
          have h0 : (L.filter fun l => g l == mm)[0]? = some y.row := by rw [← List.head?_eq_getElem?]; exact y3
          obtain ⟨b0, eb0, _, hb0⟩ := hB.it 0 _ h0
          have hrow : y.row ∈ L := (List.mem_filter.mp (List.mem_of_getElem? h0)).1
          refine ⟨_, rfl, _, rfl, D2, _, rfl, .inl (SqL.of hB.at_), (by show 2 ≤ sizeLine; decide), fun t nt => ?_⟩
          rw [List.length_map, hB.len, ← y2]
          have s3 := same_upd (o := .lst [.int (mm : Int), .int (y.many : Int)]) nt
          have eb' : (bs.map V.ref)[0]? = some (.ref b0) := by
            rw [List.getElem?_map, eb0]
            rfl
          refine ⟨_, rfl, D2, _, 0, .ref b0, rfl, rfl, SqL.of (s3 _ _ hB.at_), at_of rfl eb', ?_⟩
          refine ⟨t, b0, _, _, rfl, rfl, upd_same, s3 _ _ hb0, ?_, fun p np => ?_⟩
          · rw [nV_len]
            have := hlz _ hrow
            exact small' (by show 2 + _ ≤ _; omega)
          · refine k _ p y (s1.trans (s2.trans (s3.trans (same_upd np)))) ((s1.trans (s2.trans s3)).free np) ey ?_
            rw [upd_same]
            unfold bestL
            rw [List.map_cons, nV_nI, y1]
            rfl
/-! ### best -/
theorem scBest : FnScope ["holder", "ranks", "new"] ["holder"] (defScope sBest) := ⟨rfl, rfl, rfl, by decide +kernel, rfl, by decide +kernel, by decide +kernel⟩
def spBest (CW CR CX CH : Addr) : Sp := fun vs H Q E => ∃ (h l : Addr) (r : Sj11.Ranks), vs = [.ref h] ∧ Op CW CR CX CH H h l r .best Q E
theorem ok_best {f fA fM fO fE fL : Addr} {fd fdA fdM fdO fdE fdL : FuncData} (F : Fun K "best" "best" sBest f fd) (T : Txt K mg CW CR CX CH fX)
    (FM : Fun K "may_have" "Wrestler.may_have" sMay fM fdM) (bM : Binds K fdM ["self", "old", "new"] []) (mM : Meth K CW "may_have" fM)
    (FA : Fun K "all_that_can_be" "RankList.all_that_can_be" sAll fA fdA) (bA : Binds K fdA ["self"] []) (mA : Meth K CR "all_that_can_be" fA)
    (FE : Fun K "earned" "RankList.earned" sEarned fE fdE) (bE : Binds K fdE ["self", "rank"] []) (mE : Meth K CR "earned" fE)
    (FO : Fun K "offs" "RankList.offs" sOffs fO fdO) (bO : Binds K fdO ["self", "new"] []) (mO : Meth K CR "offs" fO)
    (FL : Fun K "least" "least" sLeast fL fdL) (bL : Binds K fdL ["measured"] []) (gL : mg "least" = some (.ref fL)) :
    FnOk P w K mg base CX0 3 f fd ["holder"] (spBest CW CR CX CH) := by
  have GA : FnOk P w K mg base CX0 2 fA fdA ["self"] (spAll CW CR) := ok_all FA T FM bM mM
  have GO : FnOk P w K mg base CX0 2 fO fdO ["self", "new"] (spOffs K CW CR) := ok_offs FO T FE bE mE
  have GL : FnOk P w K mg base CX0 1 fL fdL ["measured"] spLeast := ok_least FL T
  refine F.ok scBest (fun vs H Q E h => ?_) (fun cdv A outer s H vs Q E hr h => ?_)
  · obtain ⟨h, l, r, rfl, _⟩ := h
    rfl
  · obtain ⟨h, l, r, rfl, ⟨⟨a, dx, hh, hR, nah⟩, fine, kD, kR⟩⟩ := h
    have nd := scBest.nd
    refine ⟨_, pss_cons (ps_set (i := 1) nd rfl (Or.inr rfl) (pe_fld (pv 0) rfl))
      (pss_one (ps_ret (pe_call GL (hr.mono (by decide)) rfl gL FL.kp bL .nil pass0 (pa_cons
        (pe_lc (own := [("new", 2)]) (g := gName 2) (tt := tYes) rfl nd (pi_list (pe_meth0 (pv 1) T.clR mA GA hr bA .nil pass0)) (blkOk_by (N := ["holder", "ranks", "new"]) (sc := defScope sBest) (by decide +kernel)) (fun _ _ _ _ _ => pg_name (i := 2) nd rfl (Or.inl rfl)) (fun _ _ _ _ _ => pts_nil)
          (fun _ _ _ _ _ => pe_tup (pa_cons (pe_callB (r := rSum K) (cr_sum rfl) (by rfl) T.sum (by decide +kernel) (pa_cons (pe_meth (pv 1) T.clR mO GO hr bO .nil pass0 (pa_cons (pv 2) pa_nil)) pa_nil)) (pa_cons (pv 2) pa_nil)))) pa_nil)))), ?_⟩
    have fc := fine.count
    refine ⟨_, rfl, h, CH, dx, _, _, rfl, hh, T.clH, T.nRk, lk_here, ?_⟩
    obtain ⟨d, ho⟩ := hR.obj
    refine ⟨_, rfl, a, d, _, rfl, ho, rF_no r l _ (by decide +kernel) (by decide +kernel), a, l, r, rfl, hR, fine, fun H1 p as s1 np hA => ?_⟩
    refine ⟨p, rfl, ⟨_, SqL.of hA.at_⟩, fun D nD => ?_⟩
    have len : (as.map V.ref).length = r.lists.length := by rw [List.length_map, hA.len]
    have small_ := lists_small fc
    refine lc_list (K := K) (a := p) (xs := as.map V.ref) (fun i H' => Same H1 H' ∧ ∃ ts, MsIn (r.cost) H' D ts (r.lists.take i)) ⟨same_upd nD, [], by rw [upd_same]; rfl, rfl, fun i l h => by cases h⟩ (fun i H' _ hP => SqL.of (hP.1 _ _ hA.at_)) (fun i x H' hx hP => ?_) (fun H2 hP => ?_)
    · obtain ⟨sm, ts, hT⟩ := hP
      have hi : i < r.lists.length := by rw [← len]; exact (List.getElem?_eq_some_iff.mp hx).1
      have eL : r.lists[i]? = some r.lists[i] := List.getElem?_eq_getElem hi
      generalize r.lists[i] = lst at eL
      obtain ⟨b, e1, _, e3⟩ := hA.it i lst eL
      have ex : x = .ref b := by
        rw [List.getElem?_map, e1] at hx
        exact (Option.some.inj hx).symm
      subst ex
      have hlen : lst.length = r.count := lists_len r lst (List.mem_of_getElem? eL)
      have hR' := hR.same (s1.trans sm)
      obtain ⟨d', ho'⟩ := hR'.obj
      refine ⟨rfl, ?_⟩
      refine tyes_of ?_
      have hb := sm _ _ e3
      refine ⟨_, rfl, a, d', _, rfl, ho', rF_no r l _ (by decide +kernel) (by decide +kernel), _, rfl, a, l, b, r, lst, rfl, hR', fine, SqL.of hb, hlen, fun H3 o s3 no ho3 => ?_⟩
      have es : (nI (offs r lst)).sum = ((r.cost lst : Nat) : Int) := sum_cast (offs r lst)
      refine ⟨o, nI (offs r lst), rfl, SqL.of (by rw [nV_nI]; exact ho3), ?_⟩
      rw [es]
      have s3' := s3
      refine ⟨_, rfl, (by show 2 ≤ sizeLine; decide), fun t nt => ?_⟩
      have sall := (sm.trans s3').trans (same_upd (o := .tup [.int ((r.cost lst : Nat) : Int), .ref b]) nt)
      have hT' := (hT.same s3').same (same_upd (o := .tup [.int ((r.cost lst : Nat) : Int), .ref b]) nt)
      refine ⟨_, hT'.at_, ?_, ?_, ts ++ [t], ?_⟩
      · rw [List.length_map, hT.len, List.length_take]
        exact small (by omega)
      · exact fun z o q => by
          rw [upd_ne (ne_of_none q nD)]
          exact sall _ _ q
      · rw [take_snoc eL]
        exact hT'.push upd_same (ne_of_none e3 nD) (sall _ _ e3)
    · obtain ⟨s2, ts, hT⟩ := hP
      rw [len, List.take_length] at hT
      refine ⟨D, ts, r.cost, r.lists, rfl, hT, lists_ne r, by omega, fun l hl => by rw [lists_len r l hl]; omega, fun H3 p3 y s3 np3 ey e3 => ?_⟩
      have sall := s1.trans (s2.trans s3)
      have st : told (Sj11.step r .best).2 = bestL y := by
        show told (Sj11.toldBest (Sj11.bestBy r.cost r.lists)) = _
        rw [ey]
        rfl
      rw [st] at kD
      exact kD H3 l p3 ⟨a, dx, sall _ _ hh, hR.same sall, nah⟩ (.inl rfl) (fun b o q _ _ => sall _ _ q) ((s1.trans s2).free np3) e3
/-! ### fair -/
theorem scFair : FnScope ["holder", "ranks", "new"] ["holder"] (defScope sFair) := ⟨rfl, rfl, rfl, by decide +kernel, rfl, by decide +kernel, by decide +kernel⟩
def spFair (CW CR CX CH : Addr) : Sp := fun vs H Q E => ∃ (h l : Addr) (r : Sj11.Ranks), vs = [.ref h] ∧ Op CW CR CX CH H h l r .fair Q E
theorem ok_fair {f fA fM fO fE fL fMo : Addr} {fd fdA fdM fdO fdE fdL fdMo : FuncData} (F : Fun K "fair" "fair" sFair f fd) (T : Txt K mg CW CR CX CH fX)
    (FM : Fun K "may_have" "Wrestler.may_have" sMay fM fdM) (bM : Binds K fdM ["self", "old", "new"] []) (mM : Meth K CW "may_have" fM)
    (FA : Fun K "all_that_can_be" "RankList.all_that_can_be" sAll fA fdA) (bA : Binds K fdA ["self"] []) (mA : Meth K CR "all_that_can_be" fA)
    (FE : Fun K "earned" "RankList.earned" sEarned fE fdE) (bE : Binds K fdE ["self", "rank"] []) (mE : Meth K CR "earned" fE)
    (FO : Fun K "offs" "RankList.offs" sOffs fO fdO) (bO : Binds K fdO ["self", "new"] []) (mO : Meth K CR "offs" fO)
    (FL : Fun K "least" "least" sLeast fL fdL) (bL : Binds K fdL ["measured"] []) (gL : mg "least" = some (.ref fL))
    (FMo : Fun K "most_of" "most_of" sMost fMo fdMo) (bMo : Binds K fdMo ["offs"] []) (gMo : mg "most_of" = some (.ref fMo)) :
    FnOk P w K mg base CX0 3 f fd ["holder"] (spFair CW CR CX CH) := by
  have GA : FnOk P w K mg base CX0 2 fA fdA ["self"] (spAll CW CR) := ok_all FA T FM bM mM
  have GO : FnOk P w K mg base CX0 2 fO fdO ["self", "new"] (spOffs K CW CR) := ok_offs FO T FE bE mE
  have GL : FnOk P w K mg base CX0 1 fL fdL ["measured"] spLeast := ok_least FL T
  have GMo : FnOk P w K mg base CX0 1 fMo fdMo ["offs"] spMost := ok_most FMo T
  refine F.ok scFair (fun vs H Q E h => ?_) (fun cdv A outer s H vs Q E hr h => ?_)
  · obtain ⟨h, l, r, rfl, _⟩ := h
    rfl
  · obtain ⟨h, l, r, rfl, ⟨⟨a, dx, hh, hR, nah⟩, fine, kD, kR⟩⟩ := h
    have nd := scFair.nd
    refine ⟨_, pss_cons (ps_set (i := 1) nd rfl (Or.inr rfl) (pe_fld (pv 0) rfl))
      (pss_one (ps_ret (pe_call GL (hr.mono (by decide)) rfl gL FL.kp bL .nil pass0 (pa_cons
        (pe_lc (own := [("new", 2)]) (g := gName 2) (tt := tYes) rfl nd (pi_list (pe_meth0 (pv 1) T.clR mA GA hr bA .nil pass0)) (blkOk_by (N := ["holder", "ranks", "new"]) (sc := defScope sFair) (by decide +kernel)) (fun _ _ _ _ _ => pg_name (i := 2) nd rfl (Or.inl rfl)) (fun _ _ _ _ _ => pts_nil)
          (fun _ _ _ _ _ => pe_tup (pa_cons (pe_call GMo (hr.mono (by decide)) rfl gMo FMo.kp bMo .nil pass0 (pa_cons (pe_meth (pv 1) T.clR mO GO hr bO .nil pass0 (pa_cons (pv 2) pa_nil)) pa_nil)) (pa_cons (pv 2) pa_nil)))) pa_nil)))), ?_⟩
    have fc := fine.count
    refine ⟨_, rfl, h, CH, dx, _, _, rfl, hh, T.clH, T.nRk, lk_here, ?_⟩
    obtain ⟨d, ho⟩ := hR.obj
    refine ⟨_, rfl, a, d, _, rfl, ho, rF_no r l _ (by decide +kernel) (by decide +kernel), a, l, r, rfl, hR, fine, fun H1 p as s1 np hA => ?_⟩
    refine ⟨p, rfl, ⟨_, SqL.of hA.at_⟩, fun D nD => ?_⟩
    have len : (as.map V.ref).length = r.lists.length := by rw [List.length_map, hA.len]
    have small_ := lists_small fc
    refine lc_list (K := K) (a := p) (xs := as.map V.ref) (fun i H' => Same H1 H' ∧ ∃ ts, MsIn (r.worst) H' D ts (r.lists.take i)) ⟨same_upd nD, [], by rw [upd_same]; rfl, rfl, fun i l h => by cases h⟩ (fun i H' _ hP => SqL.of (hP.1 _ _ hA.at_)) (fun i x H' hx hP => ?_) (fun H2 hP => ?_)
    · obtain ⟨sm, ts, hT⟩ := hP
      have hi : i < r.lists.length := by rw [← len]; exact (List.getElem?_eq_some_iff.mp hx).1
      have eL : r.lists[i]? = some r.lists[i] := List.getElem?_eq_getElem hi
      generalize r.lists[i] = lst at eL
      obtain ⟨b, e1, _, e3⟩ := hA.it i lst eL
      have ex : x = .ref b := by
        rw [List.getElem?_map, e1] at hx
        exact (Option.some.inj hx).symm
      subst ex
      have hlen : lst.length = r.count := lists_len r lst (List.mem_of_getElem? eL)
      have hR' := hR.same (s1.trans sm)
      obtain ⟨d', ho'⟩ := hR'.obj
      refine ⟨rfl, ?_⟩
      refine tyes_of ?_
      have hb := sm _ _ e3
      refine ⟨_, rfl, a, d', _, rfl, ho', rF_no r l _ (by decide +kernel) (by decide +kernel), _, rfl, a, l, b, r, lst, rfl, hR', fine, SqL.of hb, hlen, fun H3 o s3 no ho3 => ?_⟩
      refine ⟨o, offs r lst, rfl, ho3, by rw [offs_len]; omega, fun H4 s4 => ?_⟩
      have s3' := s3.trans s4
      refine ⟨_, rfl, (by show 2 ≤ sizeLine; decide), fun t nt => ?_⟩
      have sall := (sm.trans s3').trans (same_upd (o := .tup [.int ((r.worst lst : Nat) : Int), .ref b]) nt)
      have hT' := (hT.same s3').same (same_upd (o := .tup [.int ((r.worst lst : Nat) : Int), .ref b]) nt)
      refine ⟨_, hT'.at_, ?_, ?_, ts ++ [t], ?_⟩
      · rw [List.length_map, hT.len, List.length_take]
        exact small (by omega)
      · exact fun z o q => by
          rw [upd_ne (ne_of_none q nD)]
          exact sall _ _ q
      · rw [take_snoc eL]
        exact hT'.push upd_same (ne_of_none e3 nD) (sall _ _ e3)
    · obtain ⟨s2, ts, hT⟩ := hP
      rw [len, List.take_length] at hT
      refine ⟨D, ts, r.worst, r.lists, rfl, hT, lists_ne r, by omega, fun l hl => by rw [lists_len r l hl]; omega, fun H3 p3 y s3 np3 ey e3 => ?_⟩
      have sall := s1.trans (s2.trans s3)
      have st : told (Sj11.step r .fair).2 = bestL y := by
        show told (Sj11.toldBest (Sj11.bestBy r.worst r.lists)) = _
        rw [ey]
        rfl
      rw [st] at kD
      exact kD H3 l p3 ⟨a, dx, sall _ _ hh, hR.same sall, nah⟩ (.inl rfl) (fun b o q _ _ => sall _ _ q) ((s1.trans s2).free np3) e3
/-! ### plain -/
theorem scPlain : FnScope ["holder", "ranks", "new"] ["holder"] (defScope sPlain) := ⟨rfl, rfl, rfl, by decide +kernel, rfl, by decide +kernel, by decide +kernel⟩
def spPlain (CW CR CX CH : Addr) : Sp := fun vs H Q E => ∃ (h l : Addr) (r : Sj11.Ranks), vs = [.ref h] ∧ Op CW CR CX CH H h l r .plain Q E
theorem ok_plain {f fB fM fO fE fF : Addr} {fd fdB fdM fdO fdE fdF : FuncData} (F : Fun K "plain" "plain" sPlain f fd) (T : Txt K mg CW CR CX CH fX)
    (FM : Fun K "may_have" "Wrestler.may_have" sMay fM fdM) (bM : Binds K fdM ["self", "old", "new"] []) (mM : Meth K CW "may_have" fM)
    (FF : Fun K "first_wrong" "RankList.first_wrong" sFirst fF fdF) (bF : Binds K fdF ["self", "new"] []) (mF : Meth K CR "first_wrong" fF)
    (FB : Fun K "by_what_is_earned" "RankList.by_what_is_earned" sBy fB fdB) (bB : Binds K fdB ["self"] []) (mB : Meth K CR "by_what_is_earned" fB)
    (FE : Fun K "earned" "RankList.earned" sEarned fE fdE) (bE : Binds K fdE ["self", "rank"] []) (mE : Meth K CR "earned" fE)
    (FO : Fun K "offs" "RankList.offs" sOffs fO fdO) (bO : Binds K fdO ["self", "new"] []) (mO : Meth K CR "offs" fO) :
    FnOk P w K mg base CX0 3 f fd ["holder"] (spPlain CW CR CX CH) := by
  have GB : FnOk P w K mg base CX0 2 fB fdB ["self"] (spBy CW CR) := ok_by FB T FE bE mE
  have GF : FnOk P w K mg base CX0 2 fF fdF ["self", "new"] (spFirst K CW CR) := ok_first FF T FM bM mM
  have GO : FnOk P w K mg base CX0 2 fO fdO ["self", "new"] (spOffs K CW CR) := ok_offs FO T FE bE mE
  refine F.ok scPlain (fun vs H Q E h => ?_) (fun cdv A outer s H vs Q E hr h => ?_)
  · obtain ⟨h, l, r, rfl, _⟩ := h
    rfl
  · obtain ⟨h, l, r, rfl, ⟨⟨a, dx, hh, hR, nah⟩, fine, kD, kR⟩⟩ := h
    have nd := scPlain.nd
    refine ⟨_, pss_cons (ps_set (i := 1) nd rfl (Or.inl rfl) (pe_fld (pv 0) rfl))
      (pss_cons (ps_set (i := 2) nd rfl (Or.inl rfl) (pe_meth0 (pv 1) T.clR mB GB hr bB .nil pass0))
      (pss_one (ps_ret (pe_op op_cat (pe_lst (pa_cons (pe_callB (cr_sum rfl) (by rfl) T.sum (by decide +kernel) (pa_cons (pe_meth (pv 1) T.clR mO GO hr bO .nil pass0 (pa_cons (pv 2) pa_nil)) pa_nil))
        (pa_cons (pe_callTy call_int1 (by rfl) T.int (by decide +kernel) (pa_cons (pe_cmpR op_isN (pe_meth (pv 1) T.clR mF GF hr bF .nil pass0 (pa_cons (pv 2) pa_nil)) pe_non (nomark _)) pa_nil)) pa_nil))) (pv 2))))), ?_⟩
    have fc := fine.count
    refine ⟨_, rfl, h, CH, dx, _, _, rfl, hh, T.clH, T.nRk, lk_here, ?_⟩
    obtain ⟨d, ho⟩ := hR.obj
    refine ⟨_, rfl, a, d, _, rfl, ho, rF_no r l _ (by decide +kernel) (by decide +kernel), a, l, r, rfl, hR, fine, fun H1 n s1 nn hn => ?_⟩
    have hpl := plain_len r
    refine ⟨_, rfl, a, d, _, rfl, s1 _ _ ho, rF_no r l _ (by decide +kernel) (by decide +kernel), _, rfl, a, l, n, r, r.plain, rfl, hR.same s1, fine, SqL.of hn, hpl, fun H2 o s2 no ho2 => ?_⟩
    refine ⟨o, nI (offs r r.plain), rfl, SqL.of (by rw [nV_nI]; exact ho2), ?_⟩
    have s12 := s1.trans s2
    refine ⟨_, rfl, a, d, _, rfl, s12 _ _ ho, rF_no r l _ (by decide +kernel) (by decide +kernel), _, rfl, a, l, n, r, r.plain, rfl, hR.same s12, fine, SqL.of (s2 _ _ hn), hpl, ?_⟩
    have es : (nI (offs r r.plain)).sum = ((r.cost r.plain : Nat) : Int) := sum_cast (offs r r.plain)
    have ei : decide (wV (r.wrong r.plain) = V.non) = r.right r.plain := by
      rw [plain_right]
      cases r.wrong r.plain <;> rfl
    refine ⟨rfl, .inr ⟨_, rfl, (by show 2 ≤ sizeLine; decide), fun t nt => ?_⟩⟩
    rw [es, ei]
    have s3 := same_upd (o := .lst [.int ((r.cost r.plain : Nat) : Int), .int (if r.right r.plain = true then 1 else 0)]) nt
    refine ⟨_, rfl, t, n, _, _, rfl, rfl, upd_same, s3 _ _ (s2 _ _ hn), ?_, fun p np => ?_⟩
    · rw [nV_len, hpl]
      exact small' (by show 2 + _ ≤ _; omega)
    · have sall := s12.trans (s3.trans (same_upd (o := .lst ([.int ((r.cost r.plain : Nat) : Int), .int (if r.right r.plain = true then 1 else 0)] ++ nV r.plain)) np))
      refine kD _ l p ⟨a, dx, sall _ _ hh, hR.same sall, nah⟩ (.inl rfl) (fun b o q _ _ => sall _ _ q) ((s12.trans s3).free np) ?_
      rw [upd_same]
      show _ = some (HO.lst (V.int ((r.cost r.plain : Nat) : Int) :: (nI ((if r.right r.plain = true then 1 else 0) :: r.plain)).map V.int))
      rw [nV_nI]
      show _ = some (HO.lst (V.int ((r.cost r.plain : Nat) : Int) :: V.int ((if r.right r.plain = true then 1 else 0 : Nat) : Int) :: nV r.plain))
      by_cases c : r.right r.plain = true
      · rw [if_pos c, if_pos c]
        rfl
      · rw [if_neg c, if_neg c]
        rfl
end
end Nr
namespace Nr
open PySem PySem.Spec PyProof.Rows L2
theorem ifT {c : Bool} {A B : Prop} (hc : c = true) (h : A) : if c = true then A else B := by
  rw [if_pos hc]
  exact h
theorem ifF {c : Bool} {A B : Prop} (hc : c = false) (h : B) : if c = true then A else B := by
  rw [hc, if_neg Bool.false_ne_true]
  exact h
theorem passAny {X : Cx} {E : XK} : Passes CX0 X E := fun _ _ _ _ _ _ _ h => h.elim
/-- where the defs stand -/
structure Defs (K : PySem.W.Frag) (mg : Str → Option Value) (CW CR CX CH fX : Addr) : Prop where
  T : Txt K mg CW CR CX CH fX
  X : ∃ fd, Fun K "__init__" "Refused.__init__" sXInit fX fd ∧ Binds K fd ["self", "number", "more"] []
  W : ∃ f fd, Fun K "__init__" "Wrestler.__init__" sWInit f fd ∧ Binds K fd ["self", "won", "lost"] [] ∧ Mk K CW f
  M : ∃ f fd, Fun K "may_have" "Wrestler.may_have" sMay f fd ∧ Binds K fd ["self", "old", "new"] [] ∧ Meth K CW "may_have" f
  R : ∃ f fd, Fun K "__init__" "RankList.__init__" sRInit f fd ∧ Binds K fd ["self", "worth"] [] ∧ Mk K CR f
  E : ∃ f fd, Fun K "earned" "RankList.earned" sEarned f fd ∧ Binds K fd ["self", "rank"] [] ∧ Meth K CR "earned" f
  O : ∃ f fd, Fun K "offs" "RankList.offs" sOffs f fd ∧ Binds K fd ["self", "new"] [] ∧ Meth K CR "offs" f
  F : ∃ f fd, Fun K "first_wrong" "RankList.first_wrong" sFirst f fd ∧ Binds K fd ["self", "new"] [] ∧ Meth K CR "first_wrong" f
  A : ∃ f fd, Fun K "all_that_can_be" "RankList.all_that_can_be" sAll f fd ∧ Binds K fd ["self"] [] ∧ Meth K CR "all_that_can_be" f
  B : ∃ f fd, Fun K "by_what_is_earned" "RankList.by_what_is_earned" sBy f fd ∧ Binds K fd ["self"] [] ∧ Meth K CR "by_what_is_earned" f
  H : ∃ f fd, Fun K "__init__" "Holder.__init__" sHInit f fd ∧ Binds K fd ["self"] [] ∧ Mk K CH f
  need : ∃ f fd, Fun K "need" "need" sNeed f fd ∧ Binds K fd ["fulfilled", "number"] [] ∧ mg "need" = some (.ref f)
  most : ∃ f fd, Fun K "most_of" "most_of" sMost f fd ∧ Binds K fd ["offs"] [] ∧ mg "most_of" = some (.ref f)
  begins : ∃ f fd, Fun K "begins" "begins" sBegins f fd ∧ Binds K fd ["holder", "worth"] [] ∧ mg "begins" = some (.ref f)
  wrestler : ∃ f fd, Fun K "wrestler" "wrestler" sWrestler f fd ∧ Binds K fd ["holder", "won", "lost"] [] ∧ mg "wrestler" = some (.ref f)
  check : ∃ f fd, Fun K "check" "check" sCheck f fd ∧ Binds K fd ["holder", "new"] [] ∧ mg "check" = some (.ref f)
  least : ∃ f fd, Fun K "least" "least" sLeast f fd ∧ Binds K fd ["measured"] [] ∧ mg "least" = some (.ref f)
  best : ∃ f fd, Fun K "best" "best" sBest f fd ∧ Binds K fd ["holder"] [] ∧ mg "best" = some (.ref f)
  fair : ∃ f fd, Fun K "fair" "fair" sFair f fd ∧ Binds K fd ["holder"] [] ∧ mg "fair" = some (.ref f)
  plain : ∃ f fd, Fun K "plain" "plain" sPlain f fd ∧ Binds K fd ["holder"] [] ∧ mg "plain" = some (.ref f)
  answered : ∃ f fd, Fun K "answered" "answered" sAnswered f fd ∧ Binds K fd ["holder", "call", "given"] [] ∧ mg "answered" = some (.ref f)
  answer : ∃ f fd, Fun K "answer" "answer" sAnswer f fd ∧ Binds K fd ["holder", "call", "given"] [] ∧ mg "answer" = some (.ref f)
  behind : ∃ f fd, Fun K "behind_lists" "behind_lists" sBehind f fd ∧ Binds K fd ["calls", "at"] [] ∧ mg "behind_lists" = some (.ref f)
section
variable {P : Program} {w : World} {K : PySem.W.Frag} {mg : Str → Option Value} {base : Heap} {CW CR CX CH fX : Addr}
/-! ### answered -/
theorem scAnswered : FnScope ["holder", "call", "given"] ["holder", "call", "given"] (defScope sAnswered) := ⟨rfl, rfl, rfl, by decide +kernel, rfl, by decide +kernel, by decide +kernel⟩
def spAnswered (K : PySem.W.Frag) (CW CR CX CH : Addr) : Sp := fun vs H Q E => ∃ (h l g : Addr) (r : Sj11.Ranks) (p : Int) (ns : List Int) (q : Sj11.Call), vs = [.ref h, .int p, .ref g] ∧ SqL K H g (ns.map V.int) ∧ Req p ns q ∧ Op CW CR CX CH H h l r q Q E
theorem ok_answered {f : Addr} {fd : FuncData} (F : Fun K "answered" "answered" sAnswered f fd) (D : Defs K mg CW CR CX CH fX) :
    FnOk P w K mg base (L2.CX P w) 5 f fd ["holder", "call", "given"] (spAnswered K CW CR CX CH) := by
  have T := D.T
  obtain ⟨fdX, FX, bX⟩ := D.X
  obtain ⟨fW, fdW, FW, bW, MW⟩ := D.W
  obtain ⟨fM, fdM, FM, bM, mM⟩ := D.M
  obtain ⟨fR, fdR, FR, bR, MR⟩ := D.R
  obtain ⟨fE, fdE, FE, bE, mE⟩ := D.E
  obtain ⟨fO, fdO, FO, bO, mO⟩ := D.O
  obtain ⟨fF, fdF, FF, bF, mF⟩ := D.F
  obtain ⟨fA, fdA, FA, bA, mA⟩ := D.A
  obtain ⟨fB, fdB, FB, bB, mB⟩ := D.B
  obtain ⟨fN, fdN, FN, bN, gN⟩ := D.need
  obtain ⟨fMo, fdMo, FMo, bMo, gMo⟩ := D.most
  obtain ⟨fL, fdL, FL, bL, gL⟩ := D.least
  obtain ⟨f0, fd0, F0, b0, g0⟩ := D.begins
  obtain ⟨f1, fd1, F1, b1, g1⟩ := D.wrestler
  obtain ⟨f2, fd2, F2, b2, g2⟩ := D.check
  obtain ⟨f3, fd3, F3, b3, g3⟩ := D.best
  obtain ⟨f4, fd4, F4, b4, g4⟩ := D.fair
  obtain ⟨f5, fd5, F5, b5, g5⟩ := D.plain
  have G0 : FnOk P w K mg base (L2.CX P w) 4 f0 fd0 ["holder", "worth"] (spBegins CW CR CX CH) := ok_begins F0 T FN bN gN FX bX FR bR MR
  have G1 : FnOk P w K mg base (L2.CX P w) 4 f1 fd1 ["holder", "won", "lost"] (spWrestler CW CR CX CH) := ok_wrestler F1 T FN bN gN FX bX FW bW MW
  have G2 : FnOk P w K mg base (L2.CX P w) 4 f2 fd2 ["holder", "new"] (spCheck K CW CR CX CH) := ok_check F2 T FN bN gN FX bX FM bM mM FF bF mF FE bE mE FO bO mO FMo bMo gMo
  have G3 : FnOk P w K mg base CX0 3 f3 fd3 ["holder"] (spBest CW CR CX CH) := ok_best F3 T FM bM mM FA bA mA FE bE mE FO bO mO FL bL gL
  have G4 : FnOk P w K mg base CX0 3 f4 fd4 ["holder"] (spFair CW CR CX CH) := ok_fair F4 T FM bM mM FA bA mA FE bE mE FO bO mO FL bL gL FMo bMo gMo
  have G5 : FnOk P w K mg base CX0 3 f5 fd5 ["holder"] (spPlain CW CR CX CH) := ok_plain F5 T FM bM mM FF bF mF FB bB mB FE bE mE FO bO mO
  refine F.okX scAnswered (fun vs H Q E h => ?_) (fun cdv A outer s H vs Q E hr h => ?_)
  · obtain ⟨h, l, g, r, p, ns, q, rfl, _⟩ := h
    rfl
  · obtain ⟨h, l, g, r, p, ns, q, rfl, hg, R, op⟩ := h
    refine ⟨_, pss_cons (ps_if (pt_cmpR op_eq (pv 1) pe_int (nomark _)) (pss_one (ps_ret (pe_call G0 hr rfl g0 F0.kp b0 .nil (passes_call (takes_of rfl rfl rfl rfl) (fun _ _ _ _ z => z)) (pa_cons (pv 0) (pa_cons (pe_ix ix_list (pv 2) pe_int (fun _ _ => rfl)) pa_nil))))) pss_nil)
      (pss_cons (ps_if (pt_cmpR op_eq (pv 1) pe_int (nomark _)) (pss_one (ps_ret (pe_call G1 hr rfl g1 F1.kp b1 .nil (passes_call (takes_of rfl rfl rfl rfl) (fun _ _ _ _ z => z)) (pa_cons (pv 0) (pa_cons (pe_ix ix_list (pv 2) pe_int (fun _ _ => rfl)) (pa_cons (pe_ix ix_list (pv 2) pe_int (fun _ _ => rfl)) pa_nil)))))) pss_nil)
      (pss_cons (ps_if (pt_cmpR op_eq (pv 1) pe_int (nomark _)) (pss_one (ps_ret (pe_call G2 hr rfl g2 F2.kp b2 .nil (passes_call (takes_of rfl rfl rfl rfl) (fun _ _ _ _ z => z)) (pa_cons (pv 0) (pa_cons (pv 2) pa_nil))))) pss_nil)
      (pss_cons (ps_if (pt_cmpR op_eq (pv 1) pe_int (nomark _)) (pss_one (ps_ret (pe_call G3 (hr.mono (by decide)) rfl g3 F3.kp b3 .nil (passAny (E := E)) (pa_cons (pv 0) pa_nil)))) pss_nil)
      (pss_cons (ps_if (pt_cmpR op_eq (pv 1) pe_int (nomark _)) (pss_one (ps_ret (pe_call G4 (hr.mono (by decide)) rfl g4 F4.kp b4 .nil (passAny (E := E)) (pa_cons (pv 0) pa_nil)))) pss_nil)
      (pss_one (ps_ret (pe_call G5 (hr.mono (by decide)) rfl g5 F5.kp b5 .nil (passAny (E := E)) (pa_cons (pv 0) pa_nil)))))))), ?_⟩
    cases R with
    | begins n =>
      refine ⟨_, rfl, rfl, _, rfl, ?_⟩
      refine ifT (by decide) ?_
      refine ⟨_, rfl, _, rfl, g, _, 0, .int (n : Int), rfl, rfl, hg, rfl, h, l, r, n, rfl, op⟩
    | wrestler a b =>
      refine ⟨_, rfl, rfl, _, rfl, ?_⟩
      refine ifF (by decide) ?_
      refine ⟨_, rfl, rfl, _, rfl, ?_⟩
      refine ifT (by decide) ?_
      refine ⟨_, rfl, _, rfl, g, _, 0, .int (a : Int), rfl, rfl, hg, rfl, _, rfl, g, _, 1, .int (b : Int), rfl, rfl, hg, rfl, h, l, r, ⟨a, b⟩, rfl, op⟩
    | check xs hx =>
      refine ⟨_, rfl, rfl, _, rfl, ?_⟩
      refine ifF (by decide) ?_
      refine ⟨_, rfl, rfl, _, rfl, ?_⟩
      refine ifF (by decide) ?_
      refine ⟨_, rfl, rfl, _, rfl, ?_⟩
      refine ifT (by decide) ?_
      refine ⟨_, rfl, _, rfl, h, l, g, r, xs, rfl, by rw [← nV_nI]; exact hg, hx, op⟩
    | best =>
      refine ⟨_, rfl, rfl, _, rfl, ?_⟩
      refine ifF (by decide) ?_
      refine ⟨_, rfl, rfl, _, rfl, ?_⟩
      refine ifF (by decide) ?_
      refine ⟨_, rfl, rfl, _, rfl, ?_⟩
      refine ifF (by decide) ?_
      refine ⟨_, rfl, rfl, _, rfl, ?_⟩
      refine ifT (by decide) ?_
      exact ⟨_, rfl, h, l, r, rfl, op⟩
    | fair =>
      refine ⟨_, rfl, rfl, _, rfl, ?_⟩
      refine ifF (by decide) ?_
      refine ⟨_, rfl, rfl, _, rfl, ?_⟩
      refine ifF (by decide) ?_
      refine ⟨_, rfl, rfl, _, rfl, ?_⟩
      refine ifF (by decide) ?_
      refine ⟨_, rfl, rfl, _, rfl, ?_⟩
      refine ifF (by decide) ?_
      refine ⟨_, rfl, rfl, _, rfl, ?_⟩
      refine ifT (by decide) ?_
      exact ⟨_, rfl, h, l, r, rfl, op⟩
    | plain =>
      refine ⟨_, rfl, rfl, _, rfl, ?_⟩
      refine ifF (by decide) ?_
      refine ⟨_, rfl, rfl, _, rfl, ?_⟩
      refine ifF (by decide) ?_
      refine ⟨_, rfl, rfl, _, rfl, ?_⟩
      refine ifF (by decide) ?_
      refine ⟨_, rfl, rfl, _, rfl, ?_⟩
      refine ifF (by decide) ?_
      refine ⟨_, rfl, rfl, _, rfl, ?_⟩
      refine ifF (by decide) ?_
      exact ⟨_, rfl, h, l, r, rfl, op⟩
/-! ### answer -/
theorem scAnswer : FnScope ["holder", "call", "given", "refused"] ["holder", "call", "given"] (defScope sAnswer) := ⟨rfl, rfl, rfl, by decide +kernel, rfl, by decide +kernel, by decide +kernel⟩
def spAnswer (K : PySem.W.Frag) (CW CR CX CH : Addr) : Sp := fun vs H Q _ => ∃ (h l g : Addr) (r : Sj11.Ranks) (p : Int) (ns : List Int) (q : Sj11.Call), vs = [.ref h, .int p, .ref g] ∧ SqL K H g (ns.map V.int) ∧ Req p ns q ∧
  HAt CW CR CH H h l r ∧ Fine r ∧ Done CW CR CH H h l (Sj11.step r q).1 (told (Sj11.step r q).2) Q
theorem ok_answer {f : Addr} {fd : FuncData} (F : Fun K "answer" "answer" sAnswer f fd) (D : Defs K mg CW CR CX CH fX) :
    FnOk P w K mg base CX0 6 f fd ["holder", "call", "given"] (spAnswer K CW CR CX CH) := by
  have T := D.T
  obtain ⟨fA, fdA, FA, bA, gA⟩ := D.answered
  have GA : FnOk P w K mg base (L2.CX P w) 5 fA fdA ["holder", "call", "given"] (spAnswered K CW CR CX CH) := ok_answered FA D
  have xf : XfC K CX := ⟨T.xga, T.xgg, T.ox.exC, T.xhd⟩
  refine F.ok scAnswer (fun vs H Q E h => ?_) (fun cdv A outer s H vs Q E hr h => ?_)
  · obtain ⟨h, l, g, r, p, ns, q, rfl, _⟩ := h
    rfl
  · obtain ⟨h, l, g, r, p, ns, q, rfl, hg, R, hH, fine, kD⟩ := h
    refine ⟨_, pss_one (ps_try_as (i := 3) (tb := fun W => tRet (tCallS (spAnswered K CW CR CX CH) (WE W) (tCons (tVar 0) (tCons (tVar 1) (tCons (tVar 2) tNil)))))
      (ts := fun a cls d => tRet (tOp rCat (tLst (tCons (tXf a cls d CX "number" (tVar 3)) tNil)) (tXf a cls d CX "more" (tVar 3)))) (Wout := fun _ _ _ _ => False) rfl rfl scAnswer.nd rfl rfl ⟨rfl, by decide, Or.inl T.gX⟩ takes0
      (fun W pn xe tk _ => pss_one (ps_ret (by exact (pe_callS GA hr rfl gA FA.kp bA (fun σ => passAt tk σ) (by exact (pa_cons (pv 0) (pa_cons (pv 1) (pa_cons (pv 2) pa_nil))))))))
      (fun a oe cls d pn hz hf => pss_one (ps_ret (by exact (pe_op op_cat (pe_lst (pa_cons (pe_xf xf T.nNum hz hf (pv 3)) pa_nil)) (pe_xf xf T.nMore hz hf (pv 3))))))), ?_⟩
    refine ⟨_, rfl, _, rfl, _, rfl, h, l, g, r, p, ns, q, rfl, hg, R, hH, fine, kD, fun er H' d m n more eo sm hd hm hz => ?_⟩
    refine ⟨true, T.eX, fun _ a na => ?_, fun z => Bool.noConfusion z⟩
    refine ⟨_, rfl, rfl, rfl, d, _, .int n, rfl, hd, (lk_past (by decide +kernel)).trans lk_here, (by show 1 ≤ sizeLine; decide), fun t nt => ?_⟩
    have s1 := same_upd (o := .lst [.int n]) nt
    refine ⟨_, rfl, rfl, rfl, d, _, .ref m, rfl, s1 _ _ hd, lk_here, t, m, _, _, rfl, rfl, upd_same, s1 _ _ hm, ?_, fun y ny => ?_⟩
    · rw [List.length_map]
      exact small' (by show 1 + _ ≤ _; omega)
    · have s2 := sm.trans (s1.trans (same_upd (o := .lst ([.int n] ++ more.map V.int)) ny))
      rw [er, eo] at kD
      exact kD _ l y (hH.same s2) (.inl rfl) (fun b o e _ _ => s2 _ _ e) ((sm.trans s1).free ny) upd_same
/-! ### behind_lists -/
theorem scBehind : FnScope ["calls", "at", "end", "k"] ["calls", "at"] (defScope sBehind) := ⟨rfl, rfl, rfl, by decide +kernel, rfl, by decide +kernel, by decide +kernel⟩
def spBehind (K : PySem.W.Frag) : Sp := fun vs H Q _ => ∃ (c : Addr) (l : List Int) (i : Nat), vs = [.ref c, .int (i : Int)] ∧ SqL K H c (l.map V.int) ∧ l[i]? = some 0 ∧ Q (.int ((i : Int) + 1)) H
theorem ok_behind {f : Addr} {fd : FuncData} (F : Fun K "behind_lists" "behind_lists" sBehind f fd) (T : Txt K mg CW CR CX CH fX) :
    FnOk P w K mg base CX0 1 f fd ["calls", "at"] (spBehind K) := by
  refine F.ok scBehind (fun vs H Q E h => ?_) (fun cdv A outer s H vs Q E hr h => ?_)
  · obtain ⟨c, l, i, rfl, _⟩ := h
    rfl
  · obtain ⟨c, l, i, rfl, hc, h0, k⟩ := h
    have nd := scBehind.nd
    refine ⟨_, pss_cons (ps_set (i := 2) nd rfl (Or.inl rfl) (pe_op op_add (pv 1) pe_int))
      (pss_cons (ps_for PassesOwn.never rfl (pi_range1 rfl T.range (pa_cons (pe_ix ix_list (pv 0) (pv 1) (fun _ _ => rfl)) pa_nil)) (pg_name (i := 3) nd rfl (Or.inl rfl))
        (pss_one (ps_set (i := 2) nd rfl (Or.inl rfl) (pe_op op_add (pe_op op_add (pv 2) pe_int) (pe_ix ix_list (pv 0) (pv 2) (fun _ _ => rfl))))))
      (pss_one (ps_ret (pv 2)))), ?_⟩
    have e0 : (l.map V.int)[i]? = some (.int 0) := by
      rw [List.getElem?_map, h0]
      rfl
    refine ⟨_, rfl, _, _, rfl, rfl, _, rfl, _, rfl, c, _, _, _, rfl, rfl, hc, atI_nat e0, 0, rfl, by decide, by decide, ?_⟩
    refine for_range (lo := 0) (n := (0 : Int).toNat) (fun _ σ H' => H' = H ∧ σ = [some (.ref c), some (.int (i : Int)), some (.int ((i : Int) + 1)), none]) ⟨rfl, rfl⟩ (fun j σ H' hj _ => absurd hj (by show ¬ j < 0; omega)) ?_
    rintro σ H' ⟨rfl, rfl⟩
    exact ⟨_, rfl, k⟩
end
end Nr
namespace Nr
open PySem PySem.Spec PyProof.Rows L2
/-- a call's places in the list -/
structure AtLine (l : List Int) (i : Nat) (p : Int) (ns t : List Int) : Prop where
  call : l[i]? = some p
  many : l[i + 1]? = some (ns.length : Int)
  lists : l[i + 2 + ns.length]? = some 0
  rest : l.drop (i + 2 + ns.length + 1) = t
  given : ((l.map V.int).drop (i + 2)).take ns.length = ns.map V.int
  len : i + 2 + ns.length + 1 ≤ l.length
theorem atLine {l : List Int} {i : Nat} {p : Int} {ns t : List Int} (h : l.drop i = p :: (ns.length : Int) :: (ns ++ 0 :: t)) : AtLine l i p ns t := by
  have g : ∀ j : Nat, l[i + j]? = (p :: (ns.length : Int) :: (ns ++ 0 :: t))[j]? := fun j => by rw [← List.getElem?_drop, h]
  have hlen : (l.drop i).length = 2 + ns.length + 1 + t.length := by
    rw [h, List.length_cons, List.length_cons, List.length_append, List.length_cons]
    omega
  rw [List.length_drop] at hlen
  have d2 : l.drop (i + 2) = ns ++ 0 :: t := by
    rw [← List.drop_drop, h]
    rfl
  refine ⟨g 0, g 1, ?_, ?_, ?_, by omega⟩
  · rw [show i + 2 + ns.length = i + (2 + ns.length) by omega, g, show 2 + ns.length = ns.length + 1 + 1 by omega, List.getElem?_cons_succ, List.getElem?_cons_succ, List.getElem?_append_right (Nat.le_refl _), Nat.sub_self]
    rfl
  · rw [show i + 2 + ns.length + 1 = (i + 2) + (ns.length + 1) by omega, ← List.drop_drop, d2, ← List.drop_drop, List.drop_left]
    rfl
  · rw [← List.map_drop, d2, List.map_append, List.take_left' (List.length_map _)]
theorem cut_given {l : List Int} {i : Nat} {p : Int} {ns t : List Int} (h : AtLine l i p ns t) : cutV (l.map V.int) (some ((i : Int) + 2)) (some ((i : Int) + 2 + (ns.length : Int))) = ns.map V.int := by
  unfold cutV
  have hl := h.len
  have e1 : HT.sIx (l.map V.int).length 0 (some ((i : Int) + 2)) = i + 2 := by
    rw [show (i : Int) + 2 = ((i + 2 : Nat) : Int) by omega, HT.sIx_nat, List.length_map]
    omega
  have e2 : HT.sIx (l.map V.int).length (l.map V.int).length (some ((i : Int) + 2 + (ns.length : Int))) = i + 2 + ns.length := by
    rw [show (i : Int) + 2 + (ns.length : Int) = ((i + 2 + ns.length : Nat) : Int) by omega, HT.sIx_nat, List.length_map]
    omega
  rw [e1, e2, show i + 2 + ns.length - (i + 2) = ns.length by omega]
  exact h.given
/-- another list is written -/
theorem HAt.upd {CW CR CH : Addr} {H : Hp} {h l f : Addr} {r : Sj11.Ranks} {xs ys : List V} (x : HAt CW CR CH H h l r) (hf : H f = some (.lst xs)) (nl : f ≠ l) : HAt CW CR CH (L2.upd H f (.lst ys)) h l r := by
  obtain ⟨a, dx, e, ⟨⟨d, ho⟩, ws, hl, hlen, hw⟩, n⟩ := x
  have n1 : h ≠ f := ne_of e hf (by intro z; cases z)
  have n2 : a ≠ f := ne_of ho hf (by intro z; cases z)
  refine ⟨a, dx, by rw [upd_ne n1]; exact e, ⟨⟨d, by rw [upd_ne n2]; exact ho⟩, ws, by rw [upd_ne nl.symm]; exact hl, hlen, fun i hi => ?_⟩, n⟩
  obtain ⟨b, eb, db, hb⟩ := hw i hi
  have n3 : b ≠ f := ne_of hb hf (by intro z; cases z)
  exact ⟨b, eb, db, by rw [upd_ne n3]; exact hb⟩
theorem big {n : Nat} (h : n ≤ 10000001) : n < sizeLine := Nat.lt_of_le_of_lt h (by rw [sizeLine_eq]; omega)
section
variable {P : Program} {w : World} {K : PySem.W.Frag} {mg : Str → Option Value} {base : Heap} {CW CR CX CH fX : Addr}
theorem scAnswers : FnScope ["calls", "holder", "found", "at", "end", "told"] ["calls"] (defScope sAnswers) := ⟨rfl, rfl, rfl, by decide +kernel, rfl, by decide +kernel, by decide +kernel⟩
def spAnswers (K : PySem.W.Frag) : Sp := fun vs H Q _ => ∃ (a : Addr) (ns : List Int), vs = [.ref a] ∧ SqL K H a (ns.map V.int) ∧ ns.length ≤ 800 ∧ PySj11.answers_asked ns = true ∧
  ∀ (H' : Hp) (p : Addr), H' p = some (.lst ((PySj11.answers ns).map V.int)) → Q (.ref p) H'
/-- what stands at the head of a turn -/
structure Turn (K : PySem.W.Frag) (CW CR CH : Addr) (H0 : Hp) (a h f : Addr) (ns : List Int) (m : Nat) (σ : L2.St) (H : Hp) : Prop where
  ex : ∃ (i : Nat) (r : Sj11.Ranks) (l : Addr) (done rest : List Int) (v4 v5 : Option V), σ = [some (.ref a), some (.ref h), some (.ref f), some (.int (i : Int)), v4, v5] ∧ m = ns.length - i ∧ i ≤ ns.length ∧
    Same H0 H ∧ HAt CW CR CH H h l r ∧ H0 l = none ∧ f ≠ l ∧ Fine r ∧ Line r (ns.drop i) rest ∧ H f = some (.lst (done.map V.int)) ∧ done ++ rest = PySj11.answers ns
theorem ok_answers {f : Addr} {fd : FuncData} (F : Fun K "answers" "answers" sAnswers f fd) (D : Defs K mg CW CR CX CH fX) :
    FnOk P w K mg base CX0 7 f fd ["calls"] (spAnswers K) := by
  have T := D.T
  obtain ⟨fR, fdR, FR, bR, MR⟩ := D.R
  obtain ⟨fH, fdH, FH, bH, MH⟩ := D.H
  obtain ⟨fA, fdA, FA, bA, gA⟩ := D.answer
  obtain ⟨fB, fdB, FB, bB, gB⟩ := D.behind
  have GH : FnOk P w K mg base CX0 3 fH fdH ["self"] (spHInit CW CR CH) := ok_hinit FH T FR bR MR
  have GA : FnOk P w K mg base CX0 6 fA fdA ["holder", "call", "given"] (spAnswer K CW CR CX CH) := ok_answer FA D
  have GB : FnOk P w K mg base CX0 1 fB fdB ["calls", "at"] (spBehind K) := ok_behind FB T
  refine F.ok scAnswers (fun vs H Q E h => ?_) (fun cdv A outer s H vs Q E hr h => ?_)
  · obtain ⟨a, ns, rfl, _⟩ := h
    rfl
  · obtain ⟨a, ns, rfl, hS, hz, hq, k⟩ := h
    have nd := scAnswers.nd
    refine ⟨_, pss_cons (ps_set (i := 1) nd rfl (Or.inl rfl) (pe_make0 MH GH (hr.mono (by decide)) rfl T.gH bH .nil pass0))
      (pss_cons (ps_set (i := 2) nd rfl (Or.inl rfl) (pe_lst pa_nil))
      (pss_cons (ps_set (i := 3) nd rfl (Or.inl rfl) pe_int)
      (pss_cons (ps_while PassesOwn.never (pt_cmpR op_lt (pv 3) (pe_callB call_len_seq (by rfl) T.len PySem.boot_len (pa_cons (pv 0) pa_nil)) (nomark _))
        (pss_cons (ps_set (i := 4) nd rfl (Or.inl rfl) (pe_op op_add (pe_op op_add (pv 3) pe_int) (pe_ix ix_list (pv 0) (pe_op op_add (pv 3) pe_int) (fun _ _ => rfl))))
        (pss_cons (ps_set (i := 5) nd rfl (Or.inl rfl) (pe_call GA hr rfl gA FA.kp bA .nil pass0 (pa_cons (pv 1) (pa_cons (pe_ix ix_list (pv 0) (pv 3) (fun _ _ => rfl)) (pa_cons (pe_slice sl_list (pv 0) (po_some (pe_op op_add (pv 3) pe_int)) (po_some (pv 4))) pa_nil)))))
        (pss_cons (ps_set (i := 3) nd rfl (Or.inl rfl) (pe_call GB (hr.mono (by decide)) rfl gB FB.kp bB .nil pass0 (pa_cons (pv 0) (pa_cons (pv 4) pa_nil))))
        (pss_cons (ps_expr (pe_bm PySem.F.plainAttrs_list PySem.F.slot_list_append PySem.F.type_list_append mt_append (pv 2) (pa_cons (pe_callB call_len_seq (by rfl) T.len PySem.boot_len (pa_cons (pv 5) pa_nil)) pa_nil)))
        (pss_one (ps_expr (pe_bm PySem.F.plainAttrs_list PySem.F.slot_list_extend PySem.F.type_list_extend mt_extend (pv 2) (pa_cons (pv 5) pa_nil)))))))))
      (pss_one (ps_ret (pv 2)))))), ?_⟩
    obtain ⟨line, short⟩ := asked_line hq
    -- holder, found, at
    intro x dx nx ndx nex
    refine ⟨x, dx, rfl, upd_same, fun H1 l0 hH0 nl0 kp => ⟨rfl, Nat.zero_le _, fun f0 nf => ?_⟩⟩
    have s1 : Same H H1 := fun b o e => kp b o (by rw [upd_ne (ne_of_none e nx), upd_ne (ne_of_none e ndx)]; exact e) (ne_of_none e nx)
    have nl : H l0 = none := by
      by_cases z : l0 = x
      · rw [z]
        exact nx
      · rw [upd_ne z] at nl0
        by_cases z2 : l0 = dx
        · rw [z2]
          exact ndx
        · rw [upd_ne z2] at nl0
          exact nl0
    have nf0 : H f0 = none := s1.free nf
    have nfl : f0 ≠ l0 := fun z => by
      obtain ⟨a', d', _, ⟨_, ws, hl, _⟩, _⟩ := hH0
      rw [z, hl] at nf
      cases nf
    refine ⟨fun m σ H' => Turn K CW CR CH H a x f0 ns m σ H', ⟨ns.length, ⟨0, Sj11.init, l0, [], PySj11.answers ns, none, none, rfl, rfl, Nat.zero_le _, s1.trans (same_upd nf), hH0.same (same_upd nf), nl, nfl, fine_init, line, upd_same, rfl⟩⟩, fun m σ H' hW => ?_⟩
    obtain ⟨i, r, l, done, rest, v4, v5, rfl, rfl, hi, sm, hH, hl0, nfl', fine, ln, hf, eA⟩ := hW
    refine ⟨_, rfl, _, rfl, a, _, rfl, .inl (sm.seq hS), _, _, rfl, rfl, _, rfl, ?_⟩
    rw [List.length_map]
    refine ite2 (fun c => ?_) (fun c => ?_)
    · have hlt : i < ns.length := by have := of_decide_eq_true c; omega
      refine ⟨fun σ' H'' => ∃ m', m' < ns.length - i ∧ Turn K CW CR CH H a x f0 ns m' σ' H'', fun _ _ z => z, ?_⟩
      generalize ed : ns.drop i = dd at ln
      cases ln with
      | nil =>
        have := congrArg List.length ed
        rw [List.length_drop, List.length_nil] at this
        omega
      | @cons _ p gs t out q R ln' =>
        have L := atLine ed
        have hc := cut_given L
        have hlen := L.len
        have ip : (ns.map V.int)[i]? = some (.int p) := by rw [List.getElem?_map, L.call]; rfl
        have im : (ns.map V.int)[i + 1]? = some (.int (gs.length : Int)) := by rw [List.getElem?_map, L.many]; rfl
        -- end
        refine ⟨_, rfl, _, _, rfl, rfl, _, rfl, _, rfl, _, _, rfl, rfl, a, _, ((i : Int) + 1), _, rfl, rfl, sm.seq hS, at_of (j := i + 1) (by omega) im, _, _, rfl, rfl, ?_⟩
        -- told
        refine ⟨_, rfl, _, rfl, _, rfl, a, _, _, _, rfl, rfl, sm.seq hS, atI_nat ip, _, rfl, _, rfl, _, _, rfl, rfl, _, rfl, _, rfl, _, rfl, a, _, rfl, sm.seq hS, fun g ng => ?_⟩
        rw [hc]
        have s2 := same_upd (o := .lst (gs.map V.int)) ng
        have hg : (upd H' g (.lst (gs.map V.int))) g = some (.lst (gs.map V.int)) := upd_same
        generalize upd H' g (.lst (gs.map V.int)) = H1' at s2 hg
        refine ⟨x, l, g, r, p, gs, q, rfl, SqL.of hg, R, hH.same s2, fine, fun H2 l2 y hH2 hl2 kp2 ny hy => ?_⟩
        have sm2 : Same H H2 := fun b o e => kp2 b o (s2 _ _ (sm _ _ e)) (ne_of_none e nx) (ne_of_none e hl0)
        have nfx : f0 ≠ x := fun z => by
          obtain ⟨a', d', e, _⟩ := hH
          rw [← z, hf] at e
          cases e
        have hf2 : H2 f0 = some (.lst (done.map V.int)) := kp2 f0 _ (s2 _ _ hf) nfx nfl'
        have nfl2 : f0 ≠ l2 := by
          rcases hl2 with z | z
          · rw [z]
            exact nfl'
          · exact ne_of_none (s2 _ _ hf) z
        have hl20 : H l2 = none := by
          rcases hl2 with z | z
          · rw [z]
            exact hl0
          · exact (sm.trans s2).free z
        have nfy : f0 ≠ y := ne_of_none (s2 _ _ hf) ny
        -- at
        refine ⟨_, rfl, _, rfl, a, ns, i + 2 + gs.length, ?_, sm2.seq hS, L.lists, ?_⟩
        · show [V.ref a, V.int ((i : Int) + 2 + (gs.length : Int))] = [V.ref a, V.int ((i + 2 + gs.length : Nat) : Int)]
          rw [show (i : Int) + 2 + (gs.length : Int) = ((i + 2 + gs.length : Nat) : Int) by omega]
        -- found
        have eAl := congrArg List.length eA
        rw [List.length_append, List.length_cons, List.length_append] at eAl
        refine ⟨_, rfl, .inl ⟨rfl, _, SqL.of hf2⟩, _, rfl, y, _, rfl, .inl (SqL.of hy), f0, _, _, rfl, rfl, hf2, ?_, ?_⟩
        · rw [List.length_map]
          exact big (by omega)
        · have hf3 : (upd H2 f0 (.lst (done.map V.int ++ [.int (((told (Sj11.step r q).2).map V.int).length : Nat)]))) f0 = some (.lst (done.map V.int ++ [.int (((told (Sj11.step r q).2).map V.int).length : Nat)])) := upd_same
          have hy3 : (upd H2 f0 (.lst (done.map V.int ++ [.int (((told (Sj11.step r q).2).map V.int).length : Nat)]))) y = some (.lst ((told (Sj11.step r q).2).map V.int)) := by rw [upd_ne nfy.symm]; exact hy
          refine ⟨_, rfl, .inl ⟨rfl, _, SqL.of hf3⟩, _, rfl, f0, y, _, _, rfl, rfl, hf3, hy3, ?_, ?_⟩
          · rw [List.length_append, List.length_map, List.length_map]
            exact Nat.le_of_lt (big (by show done.length + 1 + _ ≤ _; omega))
          · refine ⟨ns.length - (i + 2 + gs.length + 1), by omega, i + 2 + gs.length + 1, (Sj11.step r q).1, l2, done ++ ((((told (Sj11.step r q).2).length : Nat) : Int) :: told (Sj11.step r q).2), out, some (.int ((i : Int) + 2 + (gs.length : Int))), some (.ref y), ?_, rfl, by omega, ?_, ?_, hl20, nfl2, fine_step fine q, ?_, ?_, ?_⟩
            · show [some (V.ref a), some (V.ref x), some (V.ref f0), some (V.int (((i + 2 + gs.length : Nat) : Int) + 1)), _, _] = _
              rw [show ((i + 2 + gs.length : Nat) : Int) + 1 = ((i + 2 + gs.length + 1 : Nat) : Int) by omega]
            · exact fun b o e => by
                have nb : b ≠ f0 := ne_of_none e nf0
                rw [upd_ne nb, upd_ne nb]
                exact sm2 _ _ e
            · exact (hH2.upd hf2 nfl2).upd hf3 nfl2
            · rw [L.rest]
              exact ln'
            · rw [upd_same, List.map_append, List.map_cons, List.length_map, List.append_assoc]
              rfl
            · rw [List.append_assoc]
              exact eA
    · have hge : i = ns.length := by
        have : ¬ ((i : Int) < (ns.length : Int)) := fun z => c (decide_eq_true z)
        omega
      rw [hge, List.drop_length] at ln
      cases ln
      rw [List.append_nil] at eA
      refine ⟨_, rfl, k H' f0 ?_⟩
      rw [← eA]
      exact hf
end
end Nr
namespace Nr
open PySem PySem.Spec PyProof.Rows L2
/-! ## The end: what the top has written -/
theorem exm_self {K : PySem.W.Frag} {S : Addr} (h1 : PySem.W.subIn K (.ref S) (.type "BaseException") = some true) (h2 : PySem.W.isClsIn K S = true) (h3 : PySem.W.typeIn K (.ref S) = some (.type "type")) (h4 : PySem.W.subIn K (.ref S) (.ref S) = some true) :
    PySem.W.exmOne K (.ref S) (.ref S) = some true := by
  have e1 : (PySem.W.subIn K (.ref S) (.type "BaseException") == some true) = true := by rw [h1] <;> rfl
  have e2 : ((PySem.W.clsIn K S).isSome && PySem.W.typeIn K (.ref S) == some (.type "type")) = true := by
    have h2' : (PySem.W.clsIn K S).isSome = true := h2
    rw [h2', h3] <;> rfl
  show (if (PySem.W.subIn K (.ref S) (.type "BaseException") == some true) = true then (if ((PySem.W.clsIn K S).isSome && PySem.W.typeIn K (.ref S) == some (.type "type")) = true then PySem.W.subIn K (.ref S) (.ref S) else none) else none) = some true
  rw [if_pos e1, if_pos e2]
  exact h4
theorem all_mk {P : Program} {w : World} {K : PySem.W.Frag} {h : Heap} {mg : Str → Option Value} {fa CW CR CX CH fX fW fM fR fE fO fF fA fB fH fneed fmost fbegins fwrestler fcheck fleast fbest ffair fplain fanswered fanswer fbehind fanswers : Addr} (X : K.In h) (G : h.Ns mainGlobals mg) (hfa : mg "answers" = some (.ref fa))
    {nm q : Str} {N : Addr} {bs : List Value} {sn : List Str} {sub : List Value} {ab : Bool} {col : Option Bool} {dd : Option Addr} {m0 m1 m2 m3 m5 : Option Value}
    {t_cTen t_cWorth t_cBouts t_cMost : Tok}
    {odX anX odW anW odM anM odR anR odE anE odO anO odF anF odA anA odB anB odH anH odneed anneed odmost anmost odbegins anbegins odwrestler anwrestler odcheck ancheck odleast anleast odbest anbest odfair anfair odplain anplain odanswered ananswered odanswer ananswer odbehind anbehind odanswers ananswers : Option Addr} {slX slW slM slR slE slO slF slA slB slH slneed slmost slbegins slwrestler slcheck slleast slbest slfair slplain slanswered slanswer slbehind slanswers : Array (Option Value)}
    {ocX kVX dcX pmX cdX ctX ocW kVW dcW pmW cdW ctW ocM kVM dcM pmM cdM ctM ocR kVR dcR pmR cdR ctR ocE kVE dcE pmE cdE ctE ocO kVO dcO pmO cdO ctO ocF kVF dcF pmF cdF ctF ocA kVA dcA pmA cdA ctA ocB kVB dcB pmB cdB ctB ocH kVH dcH pmH cdH ctH ocneed kVneed dcneed pmneed cdneed ctneed ocmost kVmost dcmost pmmost cdmost ctmost ocbegins kVbegins dcbegins pmbegins cdbegins ctbegins ocwrestler kVwrestler dcwrestler pmwrestler cdwrestler ctwrestler occheck kVcheck dccheck pmcheck cdcheck ctcheck ocleast kVleast dcleast pmleast cdleast ctleast ocbest kVbest dcbest pmbest cdbest ctbest ocfair kVfair dcfair pmfair cdfair ctfair ocplain kVplain dcplain pmplain cdplain ctplain ocanswered kVanswered dcanswered pmanswered cdanswered ctanswered ocanswer kVanswer dcanswer pmanswer cdanswer ctanswer ocbehind kVbehind dcbehind pmbehind cdbehind ctbehind ocanswers kVanswers dcanswers pmanswers cdanswers ctanswers : Value}
    (aCW : PySem.W.nsIn K mainGlobals "Wrestler" = some (some (.ref CW)))
    (pgCW : PySem.W.plainGet K CW Str.empty = true)
    (hdCW : PySem.W.hasDictIn K CW = true)
    (poCW : PySem.W.plainOver K CW = true)
    (saCW : PySem.W.findIn K (.ref CW) "__setattr__" = some (some (.builtin "object.__setattr__")))
    (mkCW : PySem.W.makesIn K CW = true)
    (kcCW : PySem.W.keepIn K (.ref CW) = true)
    (nCW_won : PySem.W.findIn K (.ref CW) "won" = some none)
    (nCW_lost : PySem.W.findIn K (.ref CW) "lost" = some none)
    (aCR : PySem.W.nsIn K mainGlobals "RankList" = some (some (.ref CR)))
    (pgCR : PySem.W.plainGet K CR Str.empty = true)
    (hdCR : PySem.W.hasDictIn K CR = true)
    (poCR : PySem.W.plainOver K CR = true)
    (saCR : PySem.W.findIn K (.ref CR) "__setattr__" = some (some (.builtin "object.__setattr__")))
    (mkCR : PySem.W.makesIn K CR = true)
    (kcCR : PySem.W.keepIn K (.ref CR) = true)
    (nCR_worth : PySem.W.findIn K (.ref CR) "worth" = some none)
    (nCR_wrestlers : PySem.W.findIn K (.ref CR) "wrestlers" = some none)
    (aCH : PySem.W.nsIn K mainGlobals "Holder" = some (some (.ref CH)))
    (pgCH : PySem.W.plainGet K CH Str.empty = true)
    (hdCH : PySem.W.hasDictIn K CH = true)
    (poCH : PySem.W.plainOver K CH = true)
    (saCH : PySem.W.findIn K (.ref CH) "__setattr__" = some (some (.builtin "object.__setattr__")))
    (mkCH : PySem.W.makesIn K CH = true)
    (kcCH : PySem.W.keepIn K (.ref CH) = true)
    (nCH_ranks : PySem.W.findIn K (.ref CH) "ranks" = some none)
    (aCX : PySem.W.nsIn K mainGlobals "Refused" = some (some (.ref CX)))
    (xCX : K.lookup CX = some (excClassObj nm q CX N bs [.type "ValueError", .type "Exception", .type "BaseException", .type "object"] true sn sub ab col dd m0 m1 m2 m3 m5 "ValueError.__new__"))
    (saCX : PySem.W.findIn K (.ref CX) "__setattr__" = some (some (.builtin "object.__setattr__")))
    (gaCX : PySem.W.findIn K (.ref CX) "__getattribute__" = some (some (.builtin "BaseException.__getattribute__")))
    (ggCX : PySem.W.findIn K (.ref CX) "__getattr__" = some none)
    (nuCX : PySem.W.findIn K (.ref CX) "number" = some none)
    (moCX : PySem.W.findIn K (.ref CX) "more" = some none)
    (kCX : PySem.W.keepIn K (.ref CX) = true)
    (eCX : PySem.W.subIn K (.ref CX) (.type "BaseException") = some true)
    (tCX : PySem.W.typeIn K (.ref CX) = some (.type "type"))
    (hCX : PySem.W.hasDictIn K CX = true)
    (iCX : PySem.W.isClsIn K CX = true)
    (sCX : PySem.W.subIn K (.ref CX) (.ref CX) = some true)
    (cTen : PySem.W.nsIn K mainGlobals "TENTHS" = some (some (.int 10 t_cTen)))
    (cWorth : PySem.W.nsIn K mainGlobals "MOST_WORTH" = some (some (.int 30 t_cWorth)))
    (cBouts : PySem.W.nsIn K mainGlobals "MOST_BOUTS" = some (some (.int 15 t_cBouts)))
    (cMost : PySem.W.nsIn K mainGlobals "MOST_WRESTLERS" = some (some (.int 6 t_cMost)))
    (z_len : PySem.W.nsIn K mainGlobals "len" = some none)
    (z_range : PySem.W.nsIn K mainGlobals "range" = some none)
    (z_sorted : PySem.W.nsIn K mainGlobals "sorted" = some none)
    (z_enumerate : PySem.W.nsIn K mainGlobals "enumerate" = some none)
    (z_abs : PySem.W.nsIn K mainGlobals "abs" = some none)
    (z_max : PySem.W.nsIn K mainGlobals "max" = some none)
    (z_min : PySem.W.nsIn K mainGlobals "min" = some none)
    (z_sum : PySem.W.nsIn K mainGlobals "sum" = some none)
    (z_int : PySem.W.nsIn K mainGlobals "int" = some none)
    (z_list : PySem.W.nsIn K mainGlobals "list" = some none)
    (a_X : PySem.W.findIn K (.ref CX) "__init__" = some (some (.ref fX)))
    (i_X : PySem.W.typeIn K (.ref fX) = some (.type "function"))
    (l_X : K.lookup fX = some ⟨ocX, odX, .func (PySem.W.fnOf "__init__" "Refused.__init__" (defArgs sXInit) (defBody sXInit) (defScope sXInit) .none kVX dcX pmX anX cdX ctX), slX⟩)
    (c_X : PySem.W.codeIn K cdX "Refused.__init__" = true)
    (k_X : PySem.W.keepIn K (.ref fX) = true)
    (a_W : PySem.W.findIn K (.ref CW) "__init__" = some (some (.ref fW)))
    (i_W : PySem.W.isFn K (.ref fW) = true)
    (l_W : K.lookup fW = some ⟨ocW, odW, .func (PySem.W.fnOf "__init__" "Wrestler.__init__" (defArgs sWInit) (defBody sWInit) (defScope sWInit) .none kVW dcW pmW anW cdW ctW), slW⟩)
    (c_W : PySem.W.codeIn K cdW "Wrestler.__init__" = true)
    (k_W : PySem.W.keepIn K (.ref fW) = true)
    (a_M : PySem.W.findIn K (.ref CW) "may_have" = some (some (.ref fM)))
    (i_M : PySem.W.isFn K (.ref fM) = true)
    (l_M : K.lookup fM = some ⟨ocM, odM, .func (PySem.W.fnOf "may_have" "Wrestler.may_have" (defArgs sMay) (defBody sMay) (defScope sMay) .none kVM dcM pmM anM cdM ctM), slM⟩)
    (c_M : PySem.W.codeIn K cdM "Wrestler.may_have" = true)
    (k_M : PySem.W.keepIn K (.ref fM) = true)
    (a_R : PySem.W.findIn K (.ref CR) "__init__" = some (some (.ref fR)))
    (i_R : PySem.W.isFn K (.ref fR) = true)
    (l_R : K.lookup fR = some ⟨ocR, odR, .func (PySem.W.fnOf "__init__" "RankList.__init__" (defArgs sRInit) (defBody sRInit) (defScope sRInit) .none kVR dcR pmR anR cdR ctR), slR⟩)
    (c_R : PySem.W.codeIn K cdR "RankList.__init__" = true)
    (k_R : PySem.W.keepIn K (.ref fR) = true)
    (a_E : PySem.W.findIn K (.ref CR) "earned" = some (some (.ref fE)))
    (i_E : PySem.W.isFn K (.ref fE) = true)
    (l_E : K.lookup fE = some ⟨ocE, odE, .func (PySem.W.fnOf "earned" "RankList.earned" (defArgs sEarned) (defBody sEarned) (defScope sEarned) .none kVE dcE pmE anE cdE ctE), slE⟩)
    (c_E : PySem.W.codeIn K cdE "RankList.earned" = true)
    (k_E : PySem.W.keepIn K (.ref fE) = true)
    (a_O : PySem.W.findIn K (.ref CR) "offs" = some (some (.ref fO)))
    (i_O : PySem.W.isFn K (.ref fO) = true)
    (l_O : K.lookup fO = some ⟨ocO, odO, .func (PySem.W.fnOf "offs" "RankList.offs" (defArgs sOffs) (defBody sOffs) (defScope sOffs) .none kVO dcO pmO anO cdO ctO), slO⟩)
    (c_O : PySem.W.codeIn K cdO "RankList.offs" = true)
    (k_O : PySem.W.keepIn K (.ref fO) = true)
    (a_F : PySem.W.findIn K (.ref CR) "first_wrong" = some (some (.ref fF)))
    (i_F : PySem.W.isFn K (.ref fF) = true)
    (l_F : K.lookup fF = some ⟨ocF, odF, .func (PySem.W.fnOf "first_wrong" "RankList.first_wrong" (defArgs sFirst) (defBody sFirst) (defScope sFirst) .none kVF dcF pmF anF cdF ctF), slF⟩)
    (c_F : PySem.W.codeIn K cdF "RankList.first_wrong" = true)
    (k_F : PySem.W.keepIn K (.ref fF) = true)
    (a_A : PySem.W.findIn K (.ref CR) "all_that_can_be" = some (some (.ref fA)))
    (i_A : PySem.W.isFn K (.ref fA) = true)
    (l_A : K.lookup fA = some ⟨ocA, odA, .func (PySem.W.fnOf "all_that_can_be" "RankList.all_that_can_be" (defArgs sAll) (defBody sAll) (defScope sAll) .none kVA dcA pmA anA cdA ctA), slA⟩)
    (c_A : PySem.W.codeIn K cdA "RankList.all_that_can_be" = true)
    (k_A : PySem.W.keepIn K (.ref fA) = true)
    (a_B : PySem.W.findIn K (.ref CR) "by_what_is_earned" = some (some (.ref fB)))
    (i_B : PySem.W.isFn K (.ref fB) = true)
    (l_B : K.lookup fB = some ⟨ocB, odB, .func (PySem.W.fnOf "by_what_is_earned" "RankList.by_what_is_earned" (defArgs sBy) (defBody sBy) (defScope sBy) .none kVB dcB pmB anB cdB ctB), slB⟩)
    (c_B : PySem.W.codeIn K cdB "RankList.by_what_is_earned" = true)
    (k_B : PySem.W.keepIn K (.ref fB) = true)
    (a_H : PySem.W.findIn K (.ref CH) "__init__" = some (some (.ref fH)))
    (i_H : PySem.W.isFn K (.ref fH) = true)
    (l_H : K.lookup fH = some ⟨ocH, odH, .func (PySem.W.fnOf "__init__" "Holder.__init__" (defArgs sHInit) (defBody sHInit) (defScope sHInit) .none kVH dcH pmH anH cdH ctH), slH⟩)
    (c_H : PySem.W.codeIn K cdH "Holder.__init__" = true)
    (k_H : PySem.W.keepIn K (.ref fH) = true)
    (a_need : PySem.W.nsIn K mainGlobals "need" = some (some (.ref fneed)))
    (l_need : K.lookup fneed = some ⟨ocneed, odneed, .func (PySem.W.fnOf "need" "need" (defArgs sNeed) (defBody sNeed) (defScope sNeed) .none kVneed dcneed pmneed anneed cdneed ctneed), slneed⟩)
    (c_need : PySem.W.codeIn K cdneed "need" = true)
    (k_need : PySem.W.keepIn K (.ref fneed) = true)
    (a_most : PySem.W.nsIn K mainGlobals "most_of" = some (some (.ref fmost)))
    (l_most : K.lookup fmost = some ⟨ocmost, odmost, .func (PySem.W.fnOf "most_of" "most_of" (defArgs sMost) (defBody sMost) (defScope sMost) .none kVmost dcmost pmmost anmost cdmost ctmost), slmost⟩)
    (c_most : PySem.W.codeIn K cdmost "most_of" = true)
    (k_most : PySem.W.keepIn K (.ref fmost) = true)
    (a_begins : PySem.W.nsIn K mainGlobals "begins" = some (some (.ref fbegins)))
    (l_begins : K.lookup fbegins = some ⟨ocbegins, odbegins, .func (PySem.W.fnOf "begins" "begins" (defArgs sBegins) (defBody sBegins) (defScope sBegins) .none kVbegins dcbegins pmbegins anbegins cdbegins ctbegins), slbegins⟩)
    (c_begins : PySem.W.codeIn K cdbegins "begins" = true)
    (k_begins : PySem.W.keepIn K (.ref fbegins) = true)
    (a_wrestler : PySem.W.nsIn K mainGlobals "wrestler" = some (some (.ref fwrestler)))
    (l_wrestler : K.lookup fwrestler = some ⟨ocwrestler, odwrestler, .func (PySem.W.fnOf "wrestler" "wrestler" (defArgs sWrestler) (defBody sWrestler) (defScope sWrestler) .none kVwrestler dcwrestler pmwrestler anwrestler cdwrestler ctwrestler), slwrestler⟩)
    (c_wrestler : PySem.W.codeIn K cdwrestler "wrestler" = true)
    (k_wrestler : PySem.W.keepIn K (.ref fwrestler) = true)
    (a_check : PySem.W.nsIn K mainGlobals "check" = some (some (.ref fcheck)))
    (l_check : K.lookup fcheck = some ⟨occheck, odcheck, .func (PySem.W.fnOf "check" "check" (defArgs sCheck) (defBody sCheck) (defScope sCheck) .none kVcheck dccheck pmcheck ancheck cdcheck ctcheck), slcheck⟩)
    (c_check : PySem.W.codeIn K cdcheck "check" = true)
    (k_check : PySem.W.keepIn K (.ref fcheck) = true)
    (a_least : PySem.W.nsIn K mainGlobals "least" = some (some (.ref fleast)))
    (l_least : K.lookup fleast = some ⟨ocleast, odleast, .func (PySem.W.fnOf "least" "least" (defArgs sLeast) (defBody sLeast) (defScope sLeast) .none kVleast dcleast pmleast anleast cdleast ctleast), slleast⟩)
    (c_least : PySem.W.codeIn K cdleast "least" = true)
    (k_least : PySem.W.keepIn K (.ref fleast) = true)
    (a_best : PySem.W.nsIn K mainGlobals "best" = some (some (.ref fbest)))
    (l_best : K.lookup fbest = some ⟨ocbest, odbest, .func (PySem.W.fnOf "best" "best" (defArgs sBest) (defBody sBest) (defScope sBest) .none kVbest dcbest pmbest anbest cdbest ctbest), slbest⟩)
    (c_best : PySem.W.codeIn K cdbest "best" = true)
    (k_best : PySem.W.keepIn K (.ref fbest) = true)
    (a_fair : PySem.W.nsIn K mainGlobals "fair" = some (some (.ref ffair)))
    (l_fair : K.lookup ffair = some ⟨ocfair, odfair, .func (PySem.W.fnOf "fair" "fair" (defArgs sFair) (defBody sFair) (defScope sFair) .none kVfair dcfair pmfair anfair cdfair ctfair), slfair⟩)
    (c_fair : PySem.W.codeIn K cdfair "fair" = true)
    (k_fair : PySem.W.keepIn K (.ref ffair) = true)
    (a_plain : PySem.W.nsIn K mainGlobals "plain" = some (some (.ref fplain)))
    (l_plain : K.lookup fplain = some ⟨ocplain, odplain, .func (PySem.W.fnOf "plain" "plain" (defArgs sPlain) (defBody sPlain) (defScope sPlain) .none kVplain dcplain pmplain anplain cdplain ctplain), slplain⟩)
    (c_plain : PySem.W.codeIn K cdplain "plain" = true)
    (k_plain : PySem.W.keepIn K (.ref fplain) = true)
    (a_answered : PySem.W.nsIn K mainGlobals "answered" = some (some (.ref fanswered)))
    (l_answered : K.lookup fanswered = some ⟨ocanswered, odanswered, .func (PySem.W.fnOf "answered" "answered" (defArgs sAnswered) (defBody sAnswered) (defScope sAnswered) .none kVanswered dcanswered pmanswered ananswered cdanswered ctanswered), slanswered⟩)
    (c_answered : PySem.W.codeIn K cdanswered "answered" = true)
    (k_answered : PySem.W.keepIn K (.ref fanswered) = true)
    (a_answer : PySem.W.nsIn K mainGlobals "answer" = some (some (.ref fanswer)))
    (l_answer : K.lookup fanswer = some ⟨ocanswer, odanswer, .func (PySem.W.fnOf "answer" "answer" (defArgs sAnswer) (defBody sAnswer) (defScope sAnswer) .none kVanswer dcanswer pmanswer ananswer cdanswer ctanswer), slanswer⟩)
    (c_answer : PySem.W.codeIn K cdanswer "answer" = true)
    (k_answer : PySem.W.keepIn K (.ref fanswer) = true)
    (a_behind : PySem.W.nsIn K mainGlobals "behind_lists" = some (some (.ref fbehind)))
    (l_behind : K.lookup fbehind = some ⟨ocbehind, odbehind, .func (PySem.W.fnOf "behind_lists" "behind_lists" (defArgs sBehind) (defBody sBehind) (defScope sBehind) .none kVbehind dcbehind pmbehind anbehind cdbehind ctbehind), slbehind⟩)
    (c_behind : PySem.W.codeIn K cdbehind "behind_lists" = true)
    (k_behind : PySem.W.keepIn K (.ref fbehind) = true)
    (a_answers : PySem.W.nsIn K mainGlobals "answers" = some (some (.ref fanswers)))
    (l_answers : K.lookup fanswers = some ⟨ocanswers, odanswers, .func (PySem.W.fnOf "answers" "answers" (defArgs sAnswers) (defBody sAnswers) (defScope sAnswers) .none kVanswers dcanswers pmanswers ananswers cdanswers ctanswers), slanswers⟩)
    (c_answers : PySem.W.codeIn K cdanswers "answers" = true)
    (k_answers : PySem.W.keepIn K (.ref fanswers) = true)
    : ∃ fd : FuncData, (∀ (s : Shared) (us : List Value), us.length = (["calls"] : List Str).length → BindsTo s fd ⟨us, []⟩ ((["calls"] : List Str).zip us)) ∧ ∀ base : Heap, K.In base → base.Ns mainGlobals mg → FnOk P w K mg base CX0 7 fa fd ["calls"] (spAnswers K) := by
  have e := hfa.symm.trans (PySem.W.mg_of X G a_answers)
  cases e
  have T : Txt K mg CW CR CX CH fX :=
    { clW := ⟨pgCW, hdCW, poCW, saCW⟩, clR := ⟨pgCR, hdCR, poCR, saCR⟩, clH := ⟨pgCH, hdCH, poCH, saCH⟩, nWon := nCW_won, nLost := nCW_lost, nWorth := nCR_worth, nWr := nCR_wrestlers, nRk := nCH_ranks,
      gW := PySem.W.mg_of X G aCW, gR := PySem.W.mg_of X G aCR, gX := PySem.W.mg_of X G aCX, gH := PySem.W.mg_of X G aCH,
      cTen := ⟨_, PySem.W.mg_of X G cTen⟩, cWorth := ⟨_, PySem.W.mg_of X G cWorth⟩, cBouts := ⟨_, PySem.W.mg_of X G cBouts⟩, cMost := ⟨_, PySem.W.mg_of X G cMost⟩,
      ox := { cls := ⟨nm, q, N, bs, _, sn, sub, ab, col, dd, m0, m1, m2, m3, m5, xCX, by decide +kernel⟩, sa := saCX, exC := eCX, tyC := tCX, kC := kCX },
      nNum := nuCX, nMore := moCX, iX := a_X, tX := i_X, eX := exm_self eCX iCX tCX sCX, xga := gaCX, xgg := ggCX, xhd := hCX,
      len := PySem.W.mg_none_of X G z_len, range := PySem.W.mg_none_of X G z_range, sorted := PySem.W.mg_none_of X G z_sorted, enumerate := PySem.W.mg_none_of X G z_enumerate, abs := PySem.W.mg_none_of X G z_abs, max := PySem.W.mg_none_of X G z_max, min := PySem.W.mg_none_of X G z_min, sum := PySem.W.mg_none_of X G z_sum, int := PySem.W.mg_none_of X G z_int, list := PySem.W.mg_none_of X G z_list }
  have FX := fun_mk (st := sXInit) l_X c_X k_X
  have bX := FX.binds (ps := ["self", "number", "more"]) fun _ _ _ _ _ _ us hl => match us, hl with | [_, _, _], _ => rfl
  have FW := fun_mk (st := sWInit) l_W c_W k_W
  have bW := FW.binds (ps := ["self", "won", "lost"]) fun _ _ _ _ _ _ us hl => match us, hl with | [_, _, _], _ => rfl
  have FM := fun_mk (st := sMay) l_M c_M k_M
  have bM := FM.binds (ps := ["self", "old", "new"]) fun _ _ _ _ _ _ us hl => match us, hl with | [_, _, _], _ => rfl
  have FR := fun_mk (st := sRInit) l_R c_R k_R
  have bR := FR.binds (ps := ["self", "worth"]) fun _ _ _ _ _ _ us hl => match us, hl with | [_, _], _ => rfl
  have FE := fun_mk (st := sEarned) l_E c_E k_E
  have bE := FE.binds (ps := ["self", "rank"]) fun _ _ _ _ _ _ us hl => match us, hl with | [_, _], _ => rfl
  have FO := fun_mk (st := sOffs) l_O c_O k_O
  have bO := FO.binds (ps := ["self", "new"]) fun _ _ _ _ _ _ us hl => match us, hl with | [_, _], _ => rfl
  have FF := fun_mk (st := sFirst) l_F c_F k_F
  have bF := FF.binds (ps := ["self", "new"]) fun _ _ _ _ _ _ us hl => match us, hl with | [_, _], _ => rfl
  have FA := fun_mk (st := sAll) l_A c_A k_A
  have bA := FA.binds (ps := ["self"]) fun _ _ _ _ _ _ us hl => match us, hl with | [_], _ => rfl
  have FB := fun_mk (st := sBy) l_B c_B k_B
  have bB := FB.binds (ps := ["self"]) fun _ _ _ _ _ _ us hl => match us, hl with | [_], _ => rfl
  have FH := fun_mk (st := sHInit) l_H c_H k_H
  have bH := FH.binds (ps := ["self"]) fun _ _ _ _ _ _ us hl => match us, hl with | [_], _ => rfl
  have Fneed := fun_mk (st := sNeed) l_need c_need k_need
  have bneed := Fneed.binds (ps := ["fulfilled", "number"]) fun _ _ _ _ _ _ us hl => match us, hl with | [_, _], _ => rfl
  have Fmost := fun_mk (st := sMost) l_most c_most k_most
  have bmost := Fmost.binds (ps := ["offs"]) fun _ _ _ _ _ _ us hl => match us, hl with | [_], _ => rfl
  have Fbegins := fun_mk (st := sBegins) l_begins c_begins k_begins
  have bbegins := Fbegins.binds (ps := ["holder", "worth"]) fun _ _ _ _ _ _ us hl => match us, hl with | [_, _], _ => rfl
  have Fwrestler := fun_mk (st := sWrestler) l_wrestler c_wrestler k_wrestler
  have bwrestler := Fwrestler.binds (ps := ["holder", "won", "lost"]) fun _ _ _ _ _ _ us hl => match us, hl with | [_, _, _], _ => rfl
  have Fcheck := fun_mk (st := sCheck) l_check c_check k_check
  have bcheck := Fcheck.binds (ps := ["holder", "new"]) fun _ _ _ _ _ _ us hl => match us, hl with | [_, _], _ => rfl
  have Fleast := fun_mk (st := sLeast) l_least c_least k_least
  have bleast := Fleast.binds (ps := ["measured"]) fun _ _ _ _ _ _ us hl => match us, hl with | [_], _ => rfl
  have Fbest := fun_mk (st := sBest) l_best c_best k_best
  have bbest := Fbest.binds (ps := ["holder"]) fun _ _ _ _ _ _ us hl => match us, hl with | [_], _ => rfl
  have Ffair := fun_mk (st := sFair) l_fair c_fair k_fair
  have bfair := Ffair.binds (ps := ["holder"]) fun _ _ _ _ _ _ us hl => match us, hl with | [_], _ => rfl
  have Fplain := fun_mk (st := sPlain) l_plain c_plain k_plain
  have bplain := Fplain.binds (ps := ["holder"]) fun _ _ _ _ _ _ us hl => match us, hl with | [_], _ => rfl
  have Fanswered := fun_mk (st := sAnswered) l_answered c_answered k_answered
  have banswered := Fanswered.binds (ps := ["holder", "call", "given"]) fun _ _ _ _ _ _ us hl => match us, hl with | [_, _, _], _ => rfl
  have Fanswer := fun_mk (st := sAnswer) l_answer c_answer k_answer
  have banswer := Fanswer.binds (ps := ["holder", "call", "given"]) fun _ _ _ _ _ _ us hl => match us, hl with | [_, _, _], _ => rfl
  have Fbehind := fun_mk (st := sBehind) l_behind c_behind k_behind
  have bbehind := Fbehind.binds (ps := ["calls", "at"]) fun _ _ _ _ _ _ us hl => match us, hl with | [_, _], _ => rfl
  have Fanswers := fun_mk (st := sAnswers) l_answers c_answers k_answers
  have D : Defs K mg CW CR CX CH fX :=
    { T := T,
      X := ⟨_, FX, bX⟩,
      W := ⟨_, _, FW, bW, ⟨mkCW, a_W, i_W, kcCW⟩⟩,
      M := ⟨_, _, FM, bM, ⟨a_M, i_M, k_M⟩⟩,
      R := ⟨_, _, FR, bR, ⟨mkCR, a_R, i_R, kcCR⟩⟩,
      E := ⟨_, _, FE, bE, ⟨a_E, i_E, k_E⟩⟩,
      O := ⟨_, _, FO, bO, ⟨a_O, i_O, k_O⟩⟩,
      F := ⟨_, _, FF, bF, ⟨a_F, i_F, k_F⟩⟩,
      A := ⟨_, _, FA, bA, ⟨a_A, i_A, k_A⟩⟩,
      B := ⟨_, _, FB, bB, ⟨a_B, i_B, k_B⟩⟩,
      H := ⟨_, _, FH, bH, ⟨mkCH, a_H, i_H, kcCH⟩⟩,
      need := ⟨_, _, Fneed, bneed, PySem.W.mg_of X G a_need⟩,
      most := ⟨_, _, Fmost, bmost, PySem.W.mg_of X G a_most⟩,
      begins := ⟨_, _, Fbegins, bbegins, PySem.W.mg_of X G a_begins⟩,
      wrestler := ⟨_, _, Fwrestler, bwrestler, PySem.W.mg_of X G a_wrestler⟩,
      check := ⟨_, _, Fcheck, bcheck, PySem.W.mg_of X G a_check⟩,
      least := ⟨_, _, Fleast, bleast, PySem.W.mg_of X G a_least⟩,
      best := ⟨_, _, Fbest, bbest, PySem.W.mg_of X G a_best⟩,
      fair := ⟨_, _, Ffair, bfair, PySem.W.mg_of X G a_fair⟩,
      plain := ⟨_, _, Fplain, bplain, PySem.W.mg_of X G a_plain⟩,
      answered := ⟨_, _, Fanswered, banswered, PySem.W.mg_of X G a_answered⟩,
      answer := ⟨_, _, Fanswer, banswer, PySem.W.mg_of X G a_answer⟩,
      behind := ⟨_, _, Fbehind, bbehind, PySem.W.mg_of X G a_behind⟩ }
  exact ⟨PySem.W.fnOf "answers" "answers" (defArgs sAnswers) (defBody sAnswers) (defScope sAnswers) .none kVanswers dcanswers pmanswers ananswers cdanswers ctanswers, fun s us hu => match us, hu with | [_], _ => .of_eq rfl, fun base _ _ => ok_answers Fanswers D⟩
end Nr
open PySem PySem.W PyProof.Rows
set_option maxRecDepth 100000 in
set_option maxHeartbeats 8000000 in
theorem PySem.Challenge.cw_newranks_s01_answers_holds : PySem.Challenge.rw_newranks_s01_answers.Holds := by
  w_on; k_headS; (case hw => exact ⟨[.list [.int 0, .int 1, .int 0, .int 0]], by decide +kernel, by decide +kernel⟩)
  k_fillS
  refine L2.walk_specK (r := PySem.Challenge.rw_newranks_s01_answers) (k := 7) (CX := L2.CX0) (ps := ["calls"]) (sp := Nr.spAnswers) (by decide +kernel) rfl rfl ⟨rfl, by decide, by decide⟩ (fun w h Y => PySem.W.kIn_of Y) ?F ?S (fun _ _ _ _ z => z)
  case F =>
    intro w mg fa h Y KX G hmg
    refine' Nr.all_mk KX G hmg ?aCW ?pgCW ?hdCW ?poCW ?saCW ?mkCW ?kcCW ?nCW_won ?nCW_lost ?aCR ?pgCR ?hdCR ?poCR ?saCR ?mkCR ?kcCR ?nCR_worth ?nCR_wrestlers ?aCH ?pgCH ?hdCH ?poCH ?saCH ?mkCH ?kcCH ?nCH_ranks ?aCX ?xCX ?saCX ?gaCX ?ggCX ?nuCX ?moCX ?kCX ?eCX ?tCX ?hCX ?iCX ?sCX ?cTen ?cWorth ?cBouts ?cMost ?z_len ?z_range ?z_sorted ?z_enumerate ?z_abs ?z_max ?z_min ?z_sum ?z_int ?z_list ?a_X ?i_X ?l_X ?c_X ?k_X ?a_W ?i_W ?l_W ?c_W ?k_W ?a_M ?i_M ?l_M ?c_M ?k_M ?a_R ?i_R ?l_R ?c_R ?k_R ?a_E ?i_E ?l_E ?c_E ?k_E ?a_O ?i_O ?l_O ?c_O ?k_O ?a_F ?i_F ?l_F ?c_F ?k_F ?a_A ?i_A ?l_A ?c_A ?k_A ?a_B ?i_B ?l_B ?c_B ?k_B ?a_H ?i_H ?l_H ?c_H ?k_H ?a_need ?l_need ?c_need ?k_need ?a_most ?l_most ?c_most ?k_most ?a_begins ?l_begins ?c_begins ?k_begins ?a_wrestler ?l_wrestler ?c_wrestler ?k_wrestler ?a_check ?l_check ?c_check ?k_check ?a_least ?l_least ?c_least ?k_least ?a_best ?l_best ?c_best ?k_best ?a_fair ?l_fair ?c_fair ?k_fair ?a_plain ?l_plain ?c_plain ?k_plain ?a_answered ?l_answered ?c_answered ?k_answered ?a_answer ?l_answer ?c_answer ?k_answer ?a_behind ?l_behind ?c_behind ?k_behind ?a_answers ?l_answers ?c_answers ?k_answers
    (case aCW => k_is)
    (case pgCW => k_is)
    (case hdCW => k_is)
    (case poCW => k_is)
    (case saCW => k_is)
    (case mkCW => k_is)
    (case kcCW => k_is)
    (case nCW_won => k_is)
    (case nCW_lost => k_is)
    (case aCR => k_is)
    (case pgCR => k_is)
    (case hdCR => k_is)
    (case poCR => k_is)
    (case saCR => k_is)
    (case mkCR => k_is)
    (case kcCR => k_is)
    (case nCR_worth => k_is)
    (case nCR_wrestlers => k_is)
    (case aCH => k_is)
    (case pgCH => k_is)
    (case hdCH => k_is)
    (case poCH => k_is)
    (case saCH => k_is)
    (case mkCH => k_is)
    (case kcCH => k_is)
    (case nCH_ranks => k_is)
    (case aCX => k_is)
    (case xCX => k_is)
    (case saCX => k_is)
    (case gaCX => k_is)
    (case ggCX => k_is)
    (case nuCX => k_is)
    (case moCX => k_is)
    (case kCX => k_is)
    (case eCX => k_is)
    (case tCX => k_is)
    (case hCX => k_is)
    (case iCX => k_is)
    (case sCX => first | rfl | k_is)
    (case cTen => k_is)
    (case cWorth => k_is)
    (case cBouts => k_is)
    (case cMost => k_is)
    (case z_len => k_is)
    (case z_range => k_is)
    (case z_sorted => k_is)
    (case z_enumerate => k_is)
    (case z_abs => k_is)
    (case z_max => k_is)
    (case z_min => k_is)
    (case z_sum => k_is)
    (case z_int => k_is)
    (case z_list => k_is)
    (case a_X => k_is)
    (case i_X => k_is)
    (case l_X => k_is)
    (case c_X => k_is)
    (case k_X => k_is)
    (case a_W => k_is)
    (case i_W => k_is)
    (case l_W => k_is)
    (case c_W => k_is)
    (case k_W => k_is)
    (case a_M => k_is)
    (case i_M => k_is)
    (case l_M => k_is)
    (case c_M => k_is)
    (case k_M => k_is)
    (case a_R => k_is)
    (case i_R => k_is)
    (case l_R => k_is)
    (case c_R => k_is)
    (case k_R => k_is)
    (case a_E => k_is)
    (case i_E => k_is)
    (case l_E => k_is)
    (case c_E => k_is)
    (case k_E => k_is)
    (case a_O => k_is)
    (case i_O => k_is)
    (case l_O => k_is)
    (case c_O => k_is)
    (case k_O => k_is)
    (case a_F => k_is)
    (case i_F => k_is)
    (case l_F => k_is)
    (case c_F => k_is)
    (case k_F => k_is)
    (case a_A => k_is)
    (case i_A => k_is)
    (case l_A => k_is)
    (case c_A => k_is)
    (case k_A => k_is)
    (case a_B => k_is)
    (case i_B => k_is)
    (case l_B => k_is)
    (case c_B => k_is)
    (case k_B => k_is)
    (case a_H => k_is)
    (case i_H => k_is)
    (case l_H => k_is)
    (case c_H => k_is)
    (case k_H => k_is)
    (case a_need => k_is)
    (case l_need => k_is)
    (case c_need => k_is)
    (case k_need => k_is)
    (case a_most => k_is)
    (case l_most => k_is)
    (case c_most => k_is)
    (case k_most => k_is)
    (case a_begins => k_is)
    (case l_begins => k_is)
    (case c_begins => k_is)
    (case k_begins => k_is)
    (case a_wrestler => k_is)
    (case l_wrestler => k_is)
    (case c_wrestler => k_is)
    (case k_wrestler => k_is)
    (case a_check => k_is)
    (case l_check => k_is)
    (case c_check => k_is)
    (case k_check => k_is)
    (case a_least => k_is)
    (case l_least => k_is)
    (case c_least => k_is)
    (case k_least => k_is)
    (case a_best => k_is)
    (case l_best => k_is)
    (case c_best => k_is)
    (case k_best => k_is)
    (case a_fair => k_is)
    (case l_fair => k_is)
    (case c_fair => k_is)
    (case k_fair => k_is)
    (case a_plain => k_is)
    (case l_plain => k_is)
    (case c_plain => k_is)
    (case k_plain => k_is)
    (case a_answered => k_is)
    (case l_answered => k_is)
    (case c_answered => k_is)
    (case k_answered => k_is)
    (case a_answer => k_is)
    (case l_answer => k_is)
    (case c_answer => k_is)
    (case k_answer => k_is)
    (case a_behind => k_is)
    (case l_behind => k_is)
    (case c_behind => k_is)
    (case k_behind => k_is)
    (case a_answers => k_is)
    (case l_answers => k_is)
    (case c_answers => k_is)
    (case k_answers => k_is)
  case S =>
    intro K H xs a hO hwi hask hx
    cases hx with
    | cons h1 h2 =>
      cases h2
      cases h1 with
      | lst hs ha =>
        have e := L2.ints_dw a.1 _ ha
        subst e
        have q : ((Codec.inLen 0 800 a.1 && a.1.all (Codec.inInt 0 4294967295)) && true) = true := hwi
        rw [Bool.and_eq_true, Bool.and_eq_true] at q
        exact ⟨_, a.1, rfl, hs, (Codec.inNat_iff.mp q.1.1).2, hask, fun H' p hp => .lst (L2.SqL.of hp) (L2.dw_ints _)⟩
#print axioms PySem.Challenge.cw_newranks_s01_answers_holds
