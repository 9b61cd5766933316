import PyProof.Rows.All
import Wide.All
import OpenK.AllK
import Wide.FinOn
import PyProof.EqAt
import PyProof.EqKinds
import PyProof.TupleCall
import Open.SpecLaws
import KE.OsGo
import PySem.Challenge.RW_lentdrums_s01_answers
import HandS.ForSpec
import HandS.ExcSuper
import HandS.Comp
import HandS.Dict
import HandS.Iter
import HandS.Walk
import HandS.WordsDict
import HandS.WideBits
import HandS.NoneIn
import KE.DatumOrd
set_option Elab.async false
set_option linter.all false
set_option maxRecDepth 100000
set_option maxHeartbeats 4000000
section
set_option autoImplicit false
/-! Plain law, part 1: sums, what fits on a drum, the thickest, the drum that fits. No program here. -/
namespace Ld
open Kp244

theorem foldl_add (l : List Nat) : ∀ a : Nat, l.foldl (fun (a x : Nat) => a + x) a = a + l.sum := by
  induction l with
  | nil => intro a; simp
  | cons x r ih => intro a; rw [List.foldl_cons, ih, List.sum_cons]; omega
theorem sumOf_eq (l : List Nat) : Kp244.sumOf l = l.sum := by
  unfold Kp244.sumOf
  rw [foldl_add]
  omega

/-- what the first i layers hold -/
def upTo (x : Drum) (t i : Nat) : Nat := ((List.range i).map (layer x t)).sum
theorem upTo_zero (x : Drum) (t : Nat) : upTo x t 0 = 0 := rfl
theorem upTo_succ (x : Drum) (t i : Nat) : upTo x t (i + 1) = upTo x t i + layer x t i := by
  unfold upTo
  rw [List.range_succ, List.map_append, List.sum_append]
  simp
theorem holds_eq (x : Drum) (t : Nat) : holds x t = upTo x t (layers x t) / 1000 := by
  unfold holds upTo
  rw [sumOf_eq]

/-! the thickest -/
theorem find_down (p : Nat → Bool) : ∀ n : Nat, (((List.range (n + 1)).drop 1).reverse).find? p = (if n = 0 then none else if p n = true then some n else (((List.range n).drop 1).reverse).find? p) := by
  intro n
  cases n with
  | zero => rfl
  | succ n =>
    rw [if_neg (by omega)]
    rw [List.range_succ, List.drop_append_of_le_length (by simp), List.reverse_append]
    show ((n + 1) :: _).find? p = _
    rw [List.find?_cons]
    cases p (n + 1) <;> rfl
theorem find_down_some {p : Nat → Bool} {t : Nat} (ht : 1 ≤ t) (hp : p t = true) : ∀ n : Nat, t ≤ n → (∀ k, t < k → k ≤ n → p k = false) → (((List.range (n + 1)).drop 1).reverse).find? p = some t := by
  intro n
  induction n with
  | zero => intro h; omega
  | succ n ih =>
    intro h hk
    rw [find_down, if_neg (by omega)]
    by_cases e : t = n + 1
    · subst e
      rw [if_pos hp]
    · rw [if_neg (by rw [hk (n + 1) (by omega) (by omega)]; decide)]
      exact ih (by omega) fun k a b => hk k a (by omega)
theorem find_down_none {p : Nat → Bool} : ∀ n : Nat, (∀ k, 0 < k → k ≤ n → p k = false) → (((List.range (n + 1)).drop 1).reverse).find? p = none := by
  intro n
  induction n with
  | zero => intro _; rfl
  | succ n ih =>
    intro hk
    rw [find_down, if_neg (by omega), if_neg (by rw [hk (n + 1) (by omega) (by omega)]; decide)]
    exact ih fun k a b => hk k a (by omega)
theorem thickest_some {x : Drum} {m t : Nat} (ht : 1 ≤ t) (h2 : t ≤ 200) (hm : m ≤ holds x t) (hk : ∀ k, t < k → k ≤ 200 → holds x k < m) : thickest x m = some t :=
  find_down_some (p := fun t => decide (m ≤ holds x t)) ht (decide_eq_true hm) 200 h2 fun k a b => decide_eq_false (by have := hk k a b; omega)
theorem thickest_none {x : Drum} {m : Nat} (hk : ∀ k, 0 < k → k ≤ 200 → holds x k < m) : thickest x m = none :=
  find_down_none (p := fun t => decide (m ≤ holds x t)) 200 fun k a b => decide_eq_false (by have := hk k a b; omega)

/-! the drum that fits: the first of those that hold least -/
theorem best_fold (f : Nat → Nat) : ∀ (l : List Nat) (b : Nat), (∀ x ∈ l, b < x) → l.Pairwise (· < ·) →
    ∃ r, l.foldl (fun (b : Option Nat) (d : Nat) => match b with
      | none => some d
      | some e => if f d < f e then some d else some e) (some b) = some r ∧ (r = b ∨ r ∈ l) ∧ (f r < f b ∨ f r = f b ∧ r ≤ b) ∧ ∀ x ∈ l, f r < f x ∨ f r = f x ∧ r ≤ x := by
  intro l
  induction l with
  | nil => intro b _ _; exact ⟨b, rfl, .inl rfl, .inr ⟨rfl, Nat.le_refl _⟩, fun x h => by cases h⟩
  | cons y r ih =>
    intro b hb hp
    rw [List.pairwise_cons] at hp
    rw [List.foldl_cons]
    show ∃ q, List.foldl _ (if f y < f b then some y else some b) r = some q ∧ _
    by_cases c : f y < f b
    · rw [if_pos c]
      obtain ⟨q, h1, h2, h3, h4⟩ := ih y hp.1 hp.2
      refine ⟨q, h1, ?_, ?_, ?_⟩
      · rcases h2 with h2 | h2
        · subst h2; exact .inr (List.mem_cons_self)
        · exact .inr (List.mem_cons_of_mem _ h2)
      · omega
      · intro x hx
        rcases List.mem_cons.mp hx with e | hx
        · subst e; exact h3
        · exact h4 x hx
    · rw [if_neg c]
      obtain ⟨q, h1, h2, h3, h4⟩ := ih b (fun x hx => hb x (List.mem_cons_of_mem _ hx)) hp.2
      refine ⟨q, h1, ?_, h3, ?_⟩
      · rcases h2 with h2 | h2
        · exact .inl h2
        · exact .inr (List.mem_cons_of_mem _ h2)
      · intro x hx
        rcases List.mem_cons.mp hx with e | hx
        · subst e
          have := hb x List.mem_cons_self
          omega
        · exact h4 x hx
/-- the fold of fit over a rising list -/
theorem fit_fold (f : Nat → Nat) {l : List Nat} (hp : l.Pairwise (· < ·)) {d : Nat} (hd : d ∈ l) (hm : ∀ x ∈ l, f d < f x ∨ f d = f x ∧ d ≤ x) :
    l.foldl (fun (b : Option Nat) (d : Nat) => match b with
      | none => some d
      | some e => if f d < f e then some d else some e) none = some d := by
  cases l with
  | nil => cases hd
  | cons y r =>
    rw [List.pairwise_cons] at hp
    rw [List.foldl_cons]
    obtain ⟨q, h1, h2, h3, h4⟩ := best_fold f r y hp.1 hp.2
    show List.foldl _ (some y) r = _
    rw [h1]
    have hq : f q < f d ∨ f q = f d ∧ q ≤ d := by
      rcases List.mem_cons.mp hd with e | hd
      · subst e; exact h3
      · exact h4 d hd
    have hq2 : f d < f q ∨ f d = f q ∧ d ≤ q := by
      rcases h2 with e | h2
      · subst e; exact hm q List.mem_cons_self
      · exact hm q (List.mem_cons_of_mem _ h2)
    congr 1
    omega
theorem range_pair (n : Nat) : (List.range n).Pairwise (· < ·) := List.pairwise_lt_range
/-- the drums on which so much fits -/
def fitting (y : Yard) (t m : Nat) : List Nat := (all y).filter fun d => isFree (drumAt y d) && decide (m ≤ holds (drumAt y d) t)
theorem fit_some {y : Yard} {t m d : Nat} (hd : d ∈ fitting y t m) (hm : ∀ x ∈ fitting y t m, holds (drumAt y d) t < holds (drumAt y x) t ∨ holds (drumAt y d) t = holds (drumAt y x) t ∧ d ≤ x) : fit y t m = some d :=
  fit_fold (fun d => holds (drumAt y d) t) ((range_pair _).filter _) hd hm
theorem fit_none {y : Yard} {t m : Nat} (h : fitting y t m = []) : fit y t m = none := by
  unfold fitting at h
  unfold fit
  rw [h]
  rfl
end Ld
end
section
set_option autoImplicit false
/-! Plain law, part 2: the plans, the best of them. -/
namespace Ld
open Kp244

/-- the free drums' numbers -/
def frees (y : Yard) : List Nat := (all y).filter fun d => isFree (drumAt y d)
theorem mem_frees {y : Yard} {d : Nat} : d ∈ frees y ↔ d < y.drums.length ∧ isFree (drumAt y d) = true := by
  unfold frees all
  rw [List.mem_filter, List.mem_range]

/-! ### the program's plans -/
def longer (ps : List (List Nat)) (ns : List Nat) : List (List Nat) := ps.flatMap fun p => ns.map fun n => p ++ [n]
def made (F : List Nat) (room : Nat → Nat) (ls : List Nat) : List (List Nat) := ls.foldl (fun ps l => longer ps (F.filter fun d => decide (l ≤ room d))) [[]]
def pr (F : List Nat) (room : Nat → Nat) : List Nat → List (List Nat)
  | [] => [[]]
  | l :: r => (F.filter fun d => decide (l ≤ room d)).flatMap fun d => (pr F room r).map fun p => d :: p
def gen (F : List Nat) : Nat → List (List Nat)
  | 0 => [[]]
  | n + 1 => F.flatMap fun d => (gen F n).map fun p => d :: p
theorem plans_gen (y : Yard) : ∀ n, plans y n = gen (frees y) n
  | 0 => rfl
  | n + 1 => by
    show ((all y).filter fun d => isFree (drumAt y d)).flatMap _ = _
    unfold gen frees
    rw [plans_gen y n]
    rfl
theorem pr_cons (F : List Nat) (room : Nat → Nat) (l : Nat) (r : List Nat) : pr F room (l :: r) = (F.filter fun d => decide (l ≤ room d)).flatMap fun d => (pr F room r).map fun p => d :: p := rfl
theorem made_fold (F : List Nat) (room : Nat → Nat) : ∀ (ls : List Nat) (acc : List (List Nat)),
    ls.foldl (fun ps l => longer ps (F.filter fun d => decide (l ≤ room d))) acc = acc.flatMap fun p => (pr F room ls).map fun q => p ++ q
  | [], acc => by
    rw [List.foldl_nil]
    simp [pr]
  | l :: r, acc => by
    rw [List.foldl_cons, made_fold F room r]
    unfold longer
    rw [List.flatMap_assoc]
    congr 1
    funext p
    rw [pr_cons, List.flatMap_map, List.map_flatMap]
    congr 1
    funext d
    rw [List.map_map]
    congr 1
    funext q
    simp
theorem made_eq (F : List Nat) (room : Nat → Nat) (ls : List Nat) : made F room ls = pr F room ls := by
  unfold made
  rw [made_fold]
  simp
/-- each length fits by itself -/
def okEach (room : Nat → Nat) : List Nat → List Nat → Bool
  | [], _ => true
  | _ :: _, [] => false
  | l :: r, d :: p => decide (l ≤ room d) && okEach room r p
theorem flatMap_filter_if {α β : Type} (q : α → Bool) (g : α → List β) : ∀ F : List α, (F.filter q).flatMap g = F.flatMap fun a => if q a = true then g a else []
  | [] => rfl
  | a :: F => by
    rw [List.filter_cons, List.flatMap_cons]
    cases h : q a with
    | true => rw [if_pos rfl, if_pos rfl, List.flatMap_cons, flatMap_filter_if q g F]
    | false => rw [if_neg (by decide), if_neg (by decide), List.nil_append, flatMap_filter_if q g F]
theorem pr_eq (F : List Nat) (room : Nat → Nat) : ∀ ls : List Nat, pr F room ls = (gen F ls.length).filter (okEach room ls)
  | [] => rfl
  | l :: r => by
    show _ = (gen F (r.length + 1)).filter _
    unfold pr gen
    rw [flatMap_filter_if, List.filter_flatMap]
    congr 1
    funext d
    rw [List.filter_map]
    by_cases h : l ≤ room d
    · rw [if_pos (decide_eq_true h), pr_eq F room r]
      congr 1
      congr 1
      funext p
      show _ = (decide (l ≤ room d) && okEach room r p)
      rw [decide_eq_true h, Bool.true_and]
    · rw [if_neg (by rw [decide_eq_false h]; decide)]
      have e : ((okEach room (l :: r)) ∘ fun p => d :: p) = fun _ => false := by
        funext p
        show (decide (l ≤ room d) && okEach room r p) = false
        rw [decide_eq_false h, Bool.false_and]
      rw [e]
      simp
theorem gen_mem {F : List Nat} : ∀ {n : Nat} {p : List Nat}, p ∈ gen F n → p.length = n ∧ ∀ d ∈ p, d ∈ F
  | 0, p, h => by
    have e : p = [] := by simpa [gen] using h
    subst e
    exact ⟨rfl, fun d hd => by cases hd⟩
  | n + 1, p, h => by
    unfold gen at h
    rw [List.mem_flatMap] at h
    obtain ⟨d, hd, h⟩ := h
    rw [List.mem_map] at h
    obtain ⟨q, hq, rfl⟩ := h
    obtain ⟨h1, h2⟩ := gen_mem hq
    refine ⟨by rw [List.length_cons, h1], fun x hx => ?_⟩
    rcases List.mem_cons.mp hx with e | hx
    · subst e; exact hd
    · exact h2 x hx
theorem pr_mem {F : List Nat} {room : Nat → Nat} {ls p : List Nat} (h : p ∈ pr F room ls) : p.length = ls.length ∧ ∀ d ∈ p, d ∈ F := by
  rw [pr_eq] at h
  exact gen_mem (List.mem_filter.mp h).1
theorem pr_length {F : List Nat} {room : Nat → Nat} (hF : F.length ≤ 6) : ∀ ls : List Nat, (pr F room ls).length ≤ 6 ^ ls.length
  | [] => by simp [pr]
  | l :: r => by
    unfold pr
    have ih := pr_length (room := room) hF r
    rw [List.length_flatMap]
    have h2 : (F.filter fun d => decide (l ≤ room d)).length ≤ 6 := Nat.le_trans (List.length_filter_le _ _) hF
    generalize (F.filter fun d => decide (l ≤ room d)) = G at h2
    have key : ∀ G : List Nat, ((G.map fun d => ((pr F room r).map fun p => d :: p).length).sum) = G.length * (pr F room r).length := by
      intro G
      induction G with
      | nil => simp
      | cons a G ih => rw [List.map_cons, List.sum_cons, ih, List.length_map, List.length_cons, Nat.succ_mul]; omega
    rw [key, List.length_cons, Nat.pow_succ, Nat.mul_comm]
    exact Nat.mul_le_mul ih h2

/-! ### what lies on a drum -/
theorem sum_filter_if (q : Nat → Bool) (g : Nat → Nat) : ∀ l : List Nat, ((l.filter q).map g).sum = (l.map fun i => if q i = true then g i else 0).sum
  | [] => rfl
  | a :: l => by
    rw [List.filter_cons, List.map_cons, List.sum_cons]
    cases h : q a with
    | true => rw [if_pos rfl, if_pos rfl, List.map_cons, List.sum_cons, sum_filter_if q g l]
    | false => rw [if_neg (by decide), if_neg (by decide), sum_filter_if q g l]; omega
/-- as the program sums it, of the first i lengths -/
def onUpTo (ls p : List Nat) (d i : Nat) : List Nat := ((List.range i).filter fun j => decide (p.getD j 0 = d)).map fun j => ls.getD j 0
theorem onUpTo_succ (ls p : List Nat) (d i : Nat) : onUpTo ls p d (i + 1) = onUpTo ls p d i ++ if p.getD i 0 = d then [ls.getD i 0] else [] := by
  unfold onUpTo
  rw [List.range_succ, List.filter_append, List.map_append]
  congr 1
  by_cases h : p.getD i 0 = d
  · rw [if_pos h]
    simp only [List.filter_cons, decide_eq_true h, if_true, List.filter_nil, List.map_cons, List.map_nil]
  · rw [if_neg h]
    simp only [List.filter_cons, decide_eq_false h, List.filter_nil, List.map_nil, Bool.false_eq_true, if_false]
theorem onDrum_eq (ls p : List Nat) (d : Nat) (h : p.length = ls.length) : onDrum ls p d = (onUpTo ls p d ls.length).sum := by
  unfold onDrum onUpTo
  rw [sumOf_eq, sum_filter_if, h]
  congr 1
  congr 1
  funext i
  by_cases e : p.getD i 0 = d
  · rw [if_pos e, if_pos (decide_eq_true e)]
  · rw [if_neg e, if_neg (by rw [decide_eq_false e]; decide)]
theorem sum_ge {l : List Nat} {x : Nat} (h : x ∈ l) : x ≤ l.sum := by
  induction l with
  | nil => cases h
  | cons a l ih =>
    rw [List.sum_cons]
    rcases List.mem_cons.mp h with e | h
    · omega
    · have := ih h
      omega
theorem onDrum_ge {ls p : List Nat} {j : Nat} (hj : j < p.length) : ls.getD j 0 ≤ onDrum ls p (p.getD j 0) := by
  unfold onDrum
  rw [sumOf_eq]
  refine sum_ge (List.mem_map.mpr ⟨j, List.mem_range.mpr hj, ?_⟩)
  rw [if_pos rfl]
theorem onDrum_none {ls p : List Nat} {d : Nat} (h : d ∉ p) : onDrum ls p d = 0 := by
  unfold onDrum
  rw [sumOf_eq]
  have : ∀ x ∈ (List.range p.length).map (fun i => if p.getD i 0 = d then ls.getD i 0 else 0), x = 0 := by
    intro x hx
    obtain ⟨i, hi, rfl⟩ := List.mem_map.mp hx
    rw [List.mem_range] at hi
    rw [if_neg]
    intro e
    apply h
    rw [← e, List.getD_eq_getElem?_getD, List.getElem?_eq_getElem hi]
    exact List.getElem_mem hi
  generalize (List.range p.length).map (fun i => if p.getD i 0 = d then ls.getD i 0 else 0) = l at this
  induction l with
  | nil => rfl
  | cons a l ih =>
    rw [List.sum_cons, this a List.mem_cons_self, ih fun x hx => this x (List.mem_cons_of_mem _ hx)]
/-- as the program asks whether a plan fits -/
def fitsP (F : List Nat) (room : Nat → Nat) (ls p : List Nat) : Bool := F.all fun d => decide ((onUpTo ls p d ls.length).sum ≤ room d)
def roomOf (y : Yard) (t : Nat) : Nat → Nat := fun d => holds (drumAt y d) t
theorem fits_eq {y : Yard} {t : Nat} {ls p : List Nat} (hl : p.length = ls.length) (hp : ∀ d ∈ p, d ∈ frees y) : fits y t ls p = fitsP (frees y) (roomOf y t) ls p := by
  rw [Bool.eq_iff_iff]
  unfold fits fitsP
  rw [Bool.and_eq_true, List.all_eq_true, List.all_eq_true, List.all_eq_true]
  constructor
  · rintro ⟨_, h⟩ d hd
    have hd' := mem_frees.mp hd
    have := of_decide_eq_true (h d (List.mem_range.mpr hd'.1))
    rw [onDrum_eq ls p d hl] at this
    exact decide_eq_true this
  · intro h
    refine ⟨fun d hd => ?_, fun d hd => ?_⟩
    · have hd' := mem_frees.mp (hp d hd)
      rw [decide_eq_true hd'.1, hd'.2]
      rfl
    · by_cases e : d ∈ p
      · have := of_decide_eq_true (h d (hp d e))
        rw [← onDrum_eq ls p d hl] at this
        exact decide_eq_true this
      · rw [onDrum_none e]
        exact decide_eq_true (Nat.zero_le _)
theorem okEach_of {room : Nat → Nat} : ∀ {ls p : List Nat}, p.length = ls.length → (∀ j, j < p.length → ls.getD j 0 ≤ room (p.getD j 0)) → okEach room ls p = true
  | [], _, _, _ => rfl
  | l :: r, [], h, _ => by cases h
  | l :: r, d :: p, h, k => by
    unfold okEach
    have h0 : l ≤ room d := k 0 (Nat.zero_lt_succ _)
    rw [decide_eq_true h0, Bool.true_and]
    exact okEach_of (Nat.succ.inj h) fun j hj => k (j + 1) (Nat.succ_lt_succ hj)
theorem fits_each {y : Yard} {t : Nat} {ls p : List Nat} (hl : p.length = ls.length) (h : fits y t ls p = true) : okEach (roomOf y t) ls p = true := by
  unfold fits at h
  rw [Bool.and_eq_true, List.all_eq_true, List.all_eq_true] at h
  refine okEach_of hl fun j hj => ?_
  have hm : p.getD j 0 ∈ p := by
    rw [List.getD_eq_getElem?_getD, List.getElem?_eq_getElem hj]
    exact List.getElem_mem hj
  have h1 := h.1 _ hm
  rw [Bool.and_eq_true] at h1
  have := of_decide_eq_true (h.2 _ (List.mem_range.mpr (of_decide_eq_true h1.1)))
  exact Nat.le_trans (onDrum_ge hj) this

/-! ### the best -/
def pick (y : Yard) (fit : List Nat → Bool) (b : Option (List Nat)) (p : List Nat) : Option (List Nat) := match b with
  | none => if fit p = true then some p else none
  | some q => if better y p q = true ∧ fit p = true then some p else some q
theorem best_pick (y : Yard) (fit : List Nat → Bool) : ∀ (l : List (List Nat)) (b : Option (List Nat)),
    (l.filter fit).foldl (fun (b : Option Plan) (p : Plan) => match b with
      | none => some p
      | some q => if better y p q then some p else some q) b = l.foldl (pick y fit) b
  | [], _ => rfl
  | p :: l, b => by
    rw [List.filter_cons, List.foldl_cons]
    cases h : fit p with
    | true =>
      rw [if_pos rfl, List.foldl_cons, best_pick y fit l]
      congr 1
      unfold pick
      cases b with
      | none => show some p = if fit p = true then some p else none; rw [if_pos h]
      | some q =>
        show (if better y p q = true then some p else some q) = if better y p q = true ∧ fit p = true then some p else some q
        by_cases c : better y p q = true
        · rw [if_pos c, if_pos ⟨c, h⟩]
        · rw [if_neg c, if_neg fun z => c z.1]
    | false =>
      rw [if_neg (by decide), best_pick y fit l]
      congr 1
      unfold pick
      cases b with
      | none => show none = if fit p = true then some p else none; rw [if_neg (by rw [h]; decide)]
      | some q =>
        show some q = if better y p q = true ∧ fit p = true then some p else some q
        rw [if_neg fun z => by rw [h] at z; cases z.2]
/-- the loop over the plans, as the program does it -/
def bestP (y : Yard) (t : Nat) (ls : List Nat) : Option (List Nat) := (made (frees y) (roomOf y t) ls).foldl (pick y (fitsP (frees y) (roomOf y t) ls)) none
theorem best_eq (y : Yard) (t : Nat) (ls : List Nat) : best y t ls = bestP y t ls := by
  unfold best bestP
  rw [made_eq, pr_eq, plans_gen, ← best_pick]
  congr 1
  rw [List.filter_filter]
  refine List.filter_congr fun p hp => ?_
  obtain ⟨h1, h2⟩ := gen_mem hp
  rw [← fits_eq h1 h2]
  cases h : fits y t ls p with
  | false => rfl
  | true => rw [fits_each h1 h]; rfl
/-- what is found is one of the plans -/
theorem pick_mem {y : Yard} {fit : List Nat → Bool} : ∀ (l : List (List Nat)) (b : Option (List Nat)) {p : List Nat}, l.foldl (pick y fit) b = some p → b = some p ∨ p ∈ l
  | [], _, _, h => .inl h
  | q :: l, b, p, h => by
    rw [List.foldl_cons] at h
    rcases pick_mem l _ h with e | e
    · unfold pick at e
      cases b with
      | none =>
        have e : (if fit q = true then some q else none) = some p := e
        split at e
        · cases e; exact .inr List.mem_cons_self
        · cases e
      | some r =>
        have e : (if better y q r = true ∧ fit q = true then some q else some r) = some p := e
        split at e
        · cases e; exact .inr List.mem_cons_self
        · exact .inl e
    · exact .inr (List.mem_cons_of_mem _ e)
theorem bestP_mem {y : Yard} {t : Nat} {ls p : List Nat} (h : bestP y t ls = some p) : p.length = ls.length ∧ ∀ d ∈ p, d ∈ frees y := by
  unfold bestP at h
  rw [made_eq] at h
  rcases pick_mem _ _ h with e | e
  · cases e
  · exact pr_mem e

/-! ### the drums that a plan takes -/
def takenUpTo (p : List Nat) : Nat → List Nat
  | 0 => []
  | i + 1 => if p.getD i 0 ∈ p.take i then takenUpTo p i else takenUpTo p i ++ [p.getD i 0]
def takenP (p : List Nat) : List Nat := takenUpTo p p.length
theorem take_succ_getD {p : List Nat} {i : Nat} (h : i < p.length) : p.take (i + 1) = p.take i ++ [p.getD i 0] := by
  rw [List.take_add_one, List.getD_eq_getElem?_getD, List.getElem?_eq_getElem h]
  rfl
theorem taken_mem {p : List Nat} : ∀ {i : Nat}, i ≤ p.length → ∀ x, x ∈ takenUpTo p i ↔ x ∈ p.take i
  | 0, _, x => by simp [takenUpTo]
  | i + 1, h, x => by
    have ih := taken_mem (p := p) (i := i) (by omega) x
    rw [take_succ_getD (by omega)]
    unfold takenUpTo
    split
    · rename_i c
      rw [ih, List.mem_append, List.mem_singleton]
      constructor
      · exact .inl
      · rintro (z | z)
        · exact z
        · rw [z]; exact c
    · rw [List.mem_append, List.mem_append, ih]
theorem taken_nodup {p : List Nat} : ∀ {i : Nat}, i ≤ p.length → (takenUpTo p i).Nodup
  | 0, _ => List.nodup_nil
  | i + 1, h => by
    have ih := taken_nodup (p := p) (i := i) (by omega)
    unfold takenUpTo
    split
    · exact ih
    · rename_i c
      rw [List.nodup_append]
      refine ⟨ih, by simp, fun a ha b hb => ?_⟩
      rw [List.mem_singleton] at hb
      subst hb
      rw [taken_mem (by omega)] at ha
      intro e
      rw [e] at ha
      exact c ha
theorem taken_perm {y : Yard} {p : List Nat} (hp : ∀ d ∈ p, d < y.drums.length) : (takenP p).Perm (used y p) := by
  refine (List.perm_ext_iff_of_nodup (taken_nodup (Nat.le_refl _)) (List.nodup_range.filter _)).mpr fun x => ?_
  rw [taken_mem (Nat.le_refl _), List.take_length]
  show _ ↔ x ∈ (all y).filter p.contains
  rw [List.mem_filter, List.contains_iff_mem]
  constructor
  · intro h
    exact ⟨List.mem_range.mpr (hp x h), h⟩
  · exact fun h => h.2
theorem count_eq {y : Yard} {p : List Nat} (hp : ∀ d ∈ p, d < y.drums.length) : (takenP p).length = (used y p).length := (taken_perm hp).length_eq
theorem cost_eq {y : Yard} {p : List Nat} (hp : ∀ d ∈ p, d < y.drums.length) : ((takenP p).map fun d => (drumAt y d).daily).sum = daily y p := by
  unfold daily
  rw [sumOf_eq]
  exact ((taken_perm hp).map _).sum_nat
end Ld
end
section
set_option autoImplicit false
/-! Plain law, part 3: what stays true of the yard from call to call. -/
namespace Ld
open Kp244
/-- a drum as add_drum lets it in -/
structure GoodD (x : Drum) : Prop where
  core : 1 ≤ x.core
  coref : x.core ≤ x.flange
  flange : x.flange ≤ 5000
  wide1 : 1 ≤ x.wide
  wide : x.wide ≤ 5000
  daily : x.daily ≤ 1000
  pledge : x.pledge ≤ 100000
theorem layers_eq {x : Drum} {t : Nat} (ht : 1 ≤ t) : layers x t = (x.flange - x.core) / (2 * t) := if_neg (by omega)
theorem turns_eq {x : Drum} {t : Nat} (ht : 1 ≤ t) : turns x t = x.wide / t := if_neg (by omega)
theorem layers_le {x : Drum} {t : Nat} (g : GoodD x) (ht : 1 ≤ t) : layers x t ≤ 5000 := by
  rw [layers_eq ht]
  have := Nat.div_le_self (x.flange - x.core) (2 * t)
  have := g.flange
  omega
theorem turns_le {x : Drum} {t : Nat} (g : GoodD x) (ht : 1 ≤ t) : turns x t ≤ 5000 := by
  rw [turns_eq ht]
  have := Nat.div_le_self x.wide t
  have := g.wide
  omega
def lentB (g : Nat) (x : Drum) : Bool := match x.lent with
  | some z => z.1 == g
  | none => false
/-- the pledges of what's lent to one -/
def pledgedTo (ds : List Drum) (g : Nat) : Nat := ((ds.filter (lentB g)).map fun x => x.pledge).sum
/-- what stays true of a yard -/
structure YardOk (y : Yard) : Prop where
  free : y.free ≤ 100
  day : y.day ≤ 100000
  dn : y.drums.length ≤ 6
  gn : y.guests.length ≤ 4
  good : ∀ x ∈ y.drums, GoodD x
  lent : ∀ x ∈ y.drums, ∀ z, x.lent = some z → z.1 < y.guests.length ∧ z.2.1 ≤ y.day
  paid : ∀ g ∈ y.guests, g.paid ≤ g.owed
  pledged : ∀ (i : Nat) (g : Guest), y.guests[i]? = some g → g.pledged = pledgedTo y.drums i
theorem drumAt_mem {y : Yard} {d : Nat} (h : d < y.drums.length) : drumAt y d ∈ y.drums := by
  unfold drumAt
  rw [List.getD_eq_getElem?_getD, List.getElem?_eq_getElem h]
  exact List.getElem_mem h
theorem guestAt_mem {y : Yard} {d : Nat} (h : d < y.guests.length) : guestAt y d ∈ y.guests := by
  unfold guestAt
  rw [List.getD_eq_getElem?_getD, List.getElem?_eq_getElem h]
  exact List.getElem_mem h
theorem guestAt_get {y : Yard} {d : Nat} (h : d < y.guests.length) : y.guests[d]? = some (guestAt y d) := by
  unfold guestAt
  rw [List.getD_eq_getElem?_getD, List.getElem?_eq_getElem h]
  rfl
theorem ceil_div (p d : Nat) (hd : 0 < d) : (-(p : Int)).fdiv (d : Int) = -(((p + d - 1) / d : Nat) : Int) := by
  rw [Int.fdiv_eq_ediv_of_nonneg _ (by omega)]
  have h1 := Nat.div_add_mod (p + d - 1) d
  have h2 := Nat.mod_lt (p + d - 1) hd
  generalize (p + d - 1) / d = k at h1
  generalize (p + d - 1) % d = r at h1 h2
  have e : (d : Int) * (k : Int) + (r : Int) = (p : Int) + d - 1 := by
    have : ((d * k + r : Nat) : Int) = ((p + d - 1 : Nat) : Int) := by rw [h1]
    rw [Int.natCast_add, Int.natCast_mul] at this
    omega
  have u := (Int.ediv_emod_unique (a := -(p : Int)) (b := (d : Int)) (q := -(k : Int)) (r := (d : Int) * k - p) (by omega)).mpr ⟨by rw [Int.mul_neg]; omega, by omega, by omega⟩
  exact u.1
theorem filter_range_get {α β : Type} (d0 : α) (P : α → Bool) (g : α → β) : ∀ F : List α, ((List.range F.length).filter fun i => P (F.getD i d0)).map (fun i => g (F.getD i d0)) = (F.filter P).map g
  | [] => rfl
  | x :: F => by
    rw [List.length_cons, List.range_succ_eq_map, List.filter_cons, List.filter_cons, List.filter_map]
    have ih := filter_range_get d0 P g F
    show (List.map _ (if P x = true then 0 :: _ else _)) = List.map g (if P x = true then x :: _ else _)
    by_cases c : P x = true
    · rw [if_pos c, if_pos c, List.map_cons, List.map_cons, List.map_map, ← ih]
      rfl
    · rw [if_neg c, if_neg c, List.map_map, ← ih]
      rfl
theorem lentTo_eq (m : Yard) (g : Nat) : lentTo m g = (all m).filter fun d => lentB g (drumAt m d) := rfl
theorem lentTo_map {β : Type} (m : Yard) (g : Nat) (f : Drum → β) : (lentTo m g).map (fun d => f (drumAt m d)) = (m.drums.filter (lentB g)).map f := by
  rw [lentTo_eq]
  exact filter_range_get ⟨1, 0, 0, 0, 0, none⟩ (lentB g) f m.drums
theorem lentTo_pledge (m : Yard) (g : Nat) : ((lentTo m g).map fun d => (drumAt m d).pledge).sum = pledgedTo m.drums g := by
  rw [lentTo_map m g fun x => x.pledge]
  rfl
theorem lentTo_mem {m : Yard} {g d : Nat} (h : d ∈ lentTo m g) : d < m.drums.length ∧ ∃ z, (drumAt m d).lent = some z ∧ z.1 = g := by
  rw [lentTo_eq, List.mem_filter] at h
  refine ⟨List.mem_range.mp h.1, ?_⟩
  have h2 := h.2
  unfold lentB at h2
  cases c : (drumAt m d).lent with
  | none => rw [c] at h2; cases h2
  | some z => rw [c] at h2; exact ⟨z, rfl, by simpa using h2⟩
theorem lentTo_length (m : Yard) (g : Nat) : (lentTo m g).length ≤ m.drums.length := by
  rw [lentTo_eq]
  have := List.length_filter_le (fun d => lentB g (drumAt m d)) (all m)
  unfold all at *
  rw [List.length_range] at this
  exact this
theorem isDrum_of {y : Yard} {d : Nat} (h : d < y.drums.length) : isDrum y d = true := decide_eq_true h
theorem isDrum_no {y : Yard} {d : Nat} (h : ¬ d < y.drums.length) : isDrum y d = false := decide_eq_false h
theorem isGuest_of {y : Yard} {d : Nat} (h : d < y.guests.length) : isGuest y d = true := decide_eq_true h
theorem isGuest_no {y : Yard} {d : Nat} (h : ¬ d < y.guests.length) : isGuest y d = false := decide_eq_false h
theorem if_no {c : Bool} {α : Type} {x y : α} (h : c = true) : (if c = false then x else y) = y := if_neg (by rw [h]; decide)
end Ld
end
section
set_option autoImplicit false
/-! Plain law, part 4: a call keeps the yard sound. -/
namespace Ld
open Kp244
theorem pl_append (l1 l2 : List Drum) (g : Nat) : pledgedTo (l1 ++ l2) g = pledgedTo l1 g + pledgedTo l2 g := by
  unfold pledgedTo
  rw [List.filter_append, List.map_append, List.sum_append]
theorem pl_cons (x : Drum) (l : List Drum) (g : Nat) : pledgedTo (x :: l) g = (if lentB g x = true then x.pledge else 0) + pledgedTo l g := by
  unfold pledgedTo
  rw [List.filter_cons]
  by_cases c : lentB g x = true
  · rw [if_pos c, if_pos c, List.map_cons, List.sum_cons]
  · rw [if_neg c, if_neg c]
    omega
theorem pl_split {ds : List Drum} {d : Nat} (h : d < ds.length) (g : Nat) : pledgedTo ds g = pledgedTo (ds.take d ++ ds.drop (d + 1)) g + (if lentB g (ds.getD d ⟨1, 0, 0, 0, 0, none⟩) = true then (ds.getD d ⟨1, 0, 0, 0, 0, none⟩).pledge else 0) := by
  have e : ds = ds.take d ++ ds.getD d ⟨1, 0, 0, 0, 0, none⟩ :: ds.drop (d + 1) := by
    rw [List.getD_eq_getElem?_getD, List.getElem?_eq_getElem h]
    show ds = ds.take d ++ ds[d] :: ds.drop (d + 1)
    rw [← List.drop_eq_getElem_cons h, List.take_append_drop]
  generalize ds.getD d ⟨1, 0, 0, 0, 0, none⟩ = x at e
  rw [pl_append]
  generalize ds.take d = l1 at e
  generalize ds.drop (d + 1) = l2 at e
  rw [e, pl_append, pl_cons]
  omega
theorem pl_set {ds : List Drum} {d : Nat} (h : d < ds.length) (x : Drum) (g : Nat) : pledgedTo (ds.set d x) g = pledgedTo (ds.take d ++ ds.drop (d + 1)) g + (if lentB g x = true then x.pledge else 0) := by
  rw [List.set_eq_take_append_cons_drop, if_pos h, pl_append, pl_append, pl_cons]
  omega
theorem pl_none {ds : List Drum} {g : Nat} (h : ∀ x ∈ ds, lentB g x = false) : pledgedTo ds g = 0 := by
  unfold pledgedTo
  rw [List.filter_eq_nil_iff.mpr fun x hx => by rw [h x hx]; decide]
  rfl
theorem lentB_none {g : Nat} {x : Drum} (h : x.lent = none) : lentB g x = false := by
  unfold lentB
  rw [h]
theorem lentB_some {g : Nat} {x : Drum} {z : Nat × Nat × Nat} (h : x.lent = some z) : lentB g x = (z.1 == g) := by
  unfold lentB
  rw [h]
theorem mem_set {α : Type} {l : List α} {i : Nat} {x y : α} (h : y ∈ l.set i x) : y ∈ l ∨ y = x := List.mem_or_eq_of_mem_set h
theorem getD_drumAt (y : Yard) (d : Nat) : y.drums.getD d ⟨1, 0, 0, 0, 0, none⟩ = drumAt y d := rfl

theorem ok_new (f : Nat) (h : ¬ 100 < f) : YardOk ⟨0, f, [], [], 0⟩ :=
  ⟨by show f ≤ 100; omega, Nat.zero_le _, Nat.zero_le _, Nat.zero_le _, (fun x h => by cases h), (fun x h => by cases h), (fun x h => by cases h), (fun i g h => by cases h)⟩
theorem ok_drum {y : Yard} (h : YardOk y) {c f w a p : Nat} (h1 : ¬ (c = 0 ∨ f < c ∨ 5000 < f ∨ w = 0 ∨ 5000 < w ∨ 1000 < a ∨ 100000 < p)) (h2 : ¬ DRUMS ≤ y.drums.length) : YardOk { y with drums := y.drums ++ [⟨c, f, w, a, p, none⟩] } := by
  have h2 : ¬ 6 ≤ y.drums.length := h2
  refine ⟨h.free, h.day, ?_, h.gn, fun x hx => ?_, fun x hx z hz => ?_, h.paid, fun i g hg => ?_⟩
  · show (y.drums ++ [_]).length ≤ 6
    rw [List.length_append]
    show y.drums.length + 1 ≤ 6
    omega
  · rcases List.mem_append.mp (show x ∈ y.drums ++ [_] from hx) with hx | hx
    · exact h.good x hx
    · rw [List.mem_singleton] at hx
      subst hx
      exact ⟨by show 1 ≤ c; omega, by show c ≤ f; omega, by show f ≤ 5000; omega, by show 1 ≤ w; omega, by show w ≤ 5000; omega, by show a ≤ 1000; omega, by show p ≤ 100000; omega⟩
  · rcases List.mem_append.mp (show x ∈ y.drums ++ [_] from hx) with hx | hx
    · exact h.lent x hx z hz
    · rw [List.mem_singleton] at hx
      subst hx
      cases hz
  · show g.pledged = pledgedTo (y.drums ++ [_]) i
    rw [pl_append, pl_cons, if_neg (by rw [lentB_none rfl]; decide)]
    exact h.pledged i g hg
theorem ok_guest {y : Yard} (h : YardOk y) (h2 : ¬ GUESTS ≤ y.guests.length) : YardOk { y with guests := y.guests ++ [⟨0, 0, 0⟩] } := by
  have h2 : ¬ 4 ≤ y.guests.length := h2
  refine ⟨h.free, h.day, h.dn, ?_, h.good, fun x hx z hz => ?_, fun g hg => ?_, fun i g hg => ?_⟩
  · show (y.guests ++ [_]).length ≤ 4
    rw [List.length_append]
    show y.guests.length + 1 ≤ 4
    omega
  · have := h.lent x hx z hz
    refine ⟨?_, this.2⟩
    show z.1 < (y.guests ++ [_]).length
    rw [List.length_append]
    omega
  · rcases List.mem_append.mp (show g ∈ y.guests ++ [_] from hg) with hg | hg
    · exact h.paid g hg
    · rw [List.mem_singleton] at hg
      subst hg
      exact Nat.le_refl 0
  · have hg : (y.guests ++ [(⟨0, 0, 0⟩ : Guest)])[i]? = some g := hg
    by_cases c : i < y.guests.length
    · rw [List.getElem?_append_left c] at hg
      exact h.pledged i g hg
    · rw [List.getElem?_append_right (by omega)] at hg
      cases e : i - y.guests.length with
      | succ j => rw [e] at hg; cases hg
      | zero =>
        rw [e] at hg
        cases hg
        refine (pl_none fun x hx => ?_).symm
        cases c2 : x.lent with
        | none => exact lentB_none c2
        | some z =>
          rw [lentB_some c2]
          have := (h.lent x hx z c2).1
          simp only [beq_eq_false_iff_ne, ne_eq]
          omega
theorem good_lent {x : Drum} (h : GoodD x) (l : Option (Nat × Nat × Nat)) : GoodD { x with lent := l } := ⟨h.core, h.coref, h.flange, h.wide1, h.wide, h.daily, h.pledge⟩
theorem ok_lend {y : Yard} (h : YardOk y) {d g n : Nat} (hd : d < y.drums.length) (hg : g < y.guests.length) (hf : isFree (drumAt y d) = true) :
    YardOk (setGuest (setDrum y d { drumAt y d with lent := some (g, y.day, y.day + n) }) g { guestAt y g with pledged := (guestAt y g).pledged + (drumAt y d).pledge }) := by
  have hn : (drumAt y d).lent = none := by
    unfold isFree at hf
    cases c : (drumAt y d).lent with
    | none => rfl
    | some z => rw [c] at hf; cases hf
  refine ⟨h.free, h.day, ?_, ?_, fun x hx => ?_, fun x hx z hz => ?_, fun q hq => ?_, fun i q hq => ?_⟩
  · show (y.drums.set d _).length ≤ 6
    rw [List.length_set]
    exact h.dn
  · show (y.guests.set g _).length ≤ 4
    rw [List.length_set]
    exact h.gn
  · rcases mem_set (show x ∈ y.drums.set d _ from hx) with hx | hx
    · exact h.good x hx
    · subst hx
      exact good_lent (h.good _ (drumAt_mem hd)) _
  · show z.1 < (y.guests.set g _).length ∧ z.2.1 ≤ y.day
    rw [List.length_set]
    rcases mem_set (show x ∈ y.drums.set d _ from hx) with hx | hx
    · exact h.lent x hx z hz
    · subst hx
      cases hz
      exact ⟨hg, Nat.le_refl _⟩
  · rcases mem_set (show q ∈ y.guests.set g _ from hq) with hq | hq
    · exact h.paid q hq
    · subst hq
      have := h.paid _ (guestAt_mem hg)
      show (guestAt y g).paid ≤ (guestAt y g).owed
      exact this
  · show q.pledged = pledgedTo (y.drums.set d _) i
    have hq : (y.guests.set g { guestAt y g with pledged := (guestAt y g).pledged + (drumAt y d).pledge })[i]? = some q := hq
    have e1 := pl_split hd i
    rw [getD_drumAt, lentB_none hn, if_neg (by decide)] at e1
    rw [pl_set hd, lentB_some (z := (g, y.day, y.day + n)) rfl]
    by_cases c : i = g
    · subst c
      rw [List.getElem?_set_self hg] at hq
      cases hq
      have e2 := h.pledged i _ (guestAt_get hg)
      show (guestAt y i).pledged + (drumAt y d).pledge = _ + (if (i == i) = true then (drumAt y d).pledge else 0)
      rw [if_pos (by simp)]
      omega
    · rw [List.getElem?_set_ne (Ne.symm c)] at hq
      have e2 := h.pledged i _ hq
      show _ = _ + (if (g == i) = true then (drumAt y d).pledge else 0)
      rw [if_neg (by simp; omega)]
      omega
theorem ok_bring {y : Yard} (h : YardOk y) {d v : Nat} {z : Nat × Nat × Nat} (hd : d < y.drums.length) (hz : (drumAt y d).lent = some z) :
    YardOk (setGuest (setDrum y d { drumAt y d with lent := none }) z.1 { guestAt y z.1 with owed := (guestAt y z.1).owed + v, pledged := (guestAt y z.1).pledged - (drumAt y d).pledge }) := by
  obtain ⟨hz1, hz2⟩ := h.lent _ (drumAt_mem hd) z hz
  refine ⟨h.free, h.day, ?_, ?_, fun x hx => ?_, fun x hx q hq => ?_, fun q hq => ?_, fun i q hq => ?_⟩
  · show (y.drums.set d _).length ≤ 6
    rw [List.length_set]
    exact h.dn
  · show (y.guests.set z.1 _).length ≤ 4
    rw [List.length_set]
    exact h.gn
  · rcases mem_set (show x ∈ y.drums.set d _ from hx) with hx | hx
    · exact h.good x hx
    · subst hx
      exact good_lent (h.good _ (drumAt_mem hd)) _
  · show q.1 < (y.guests.set z.1 _).length ∧ q.2.1 ≤ y.day
    rw [List.length_set]
    rcases mem_set (show x ∈ y.drums.set d _ from hx) with hx | hx
    · exact h.lent x hx q hq
    · subst hx
      cases hq
  · rcases mem_set (show q ∈ y.guests.set z.1 _ from hq) with hq | hq
    · exact h.paid q hq
    · subst hq
      have := h.paid _ (guestAt_mem hz1)
      show (guestAt y z.1).paid ≤ (guestAt y z.1).owed + v
      omega
  · show q.pledged = pledgedTo (y.drums.set d _) i
    have hq : (y.guests.set z.1 { guestAt y z.1 with owed := (guestAt y z.1).owed + v, pledged := (guestAt y z.1).pledged - (drumAt y d).pledge })[i]? = some q := hq
    have e1 := pl_split hd i
    rw [getD_drumAt, lentB_some hz] at e1
    rw [pl_set hd, lentB_none rfl, if_neg (by decide)]
    by_cases c : i = z.1
    · rw [c] at hq e1 ⊢
      rw [List.getElem?_set_self hz1] at hq
      cases hq
      have e2 := h.pledged z.1 _ (guestAt_get hz1)
      rw [if_pos (by simp)] at e1
      show (guestAt y z.1).pledged - (drumAt y d).pledge = _
      omega
    · rw [List.getElem?_set_ne (Ne.symm c)] at hq
      have e2 := h.pledged i _ hq
      rw [if_neg (by simp; omega)] at e1
      omega
theorem ok_lose {y : Yard} (h : YardOk y) {d v k : Nat} {z : Nat × Nat × Nat} (hd : d < y.drums.length) (hz : (drumAt y d).lent = some z) :
    YardOk { setGuest { y with drums := (y.drums.take d) ++ y.drums.drop (d + 1) } z.1 { guestAt y z.1 with owed := (guestAt y z.1).owed + v, pledged := (guestAt y z.1).pledged - (drumAt y d).pledge } with kept := k } := by
  obtain ⟨hz1, hz2⟩ := h.lent _ (drumAt_mem hd) z hz
  have sub : ∀ x ∈ y.drums.take d ++ y.drums.drop (d + 1), x ∈ y.drums := fun x hx => by
    rcases List.mem_append.mp hx with hx | hx
    · exact List.mem_of_mem_take hx
    · exact List.mem_of_mem_drop hx
  refine ⟨h.free, h.day, ?_, ?_, fun x hx => h.good x (sub x hx), fun x hx q hq => ?_, fun q hq => ?_, fun i q hq => ?_⟩
  · show (y.drums.take d ++ y.drums.drop (d + 1)).length ≤ 6
    rw [List.length_append, List.length_take, List.length_drop]
    have := h.dn
    omega
  · show (y.guests.set z.1 _).length ≤ 4
    rw [List.length_set]
    exact h.gn
  · show q.1 < (y.guests.set z.1 _).length ∧ q.2.1 ≤ y.day
    rw [List.length_set]
    exact h.lent x (sub x hx) q hq
  · rcases mem_set (show q ∈ y.guests.set z.1 _ from hq) with hq | hq
    · exact h.paid q hq
    · subst hq
      have := h.paid _ (guestAt_mem hz1)
      show (guestAt y z.1).paid ≤ (guestAt y z.1).owed + v
      omega
  · show q.pledged = pledgedTo (y.drums.take d ++ y.drums.drop (d + 1)) i
    have hq : (y.guests.set z.1 { guestAt y z.1 with owed := (guestAt y z.1).owed + v, pledged := (guestAt y z.1).pledged - (drumAt y d).pledge })[i]? = some q := hq
    have e1 := pl_split hd i
    rw [getD_drumAt, lentB_some hz] at e1
    by_cases c : i = z.1
    · rw [c] at hq e1 ⊢
      rw [List.getElem?_set_self hz1] at hq
      cases hq
      have e2 := h.pledged z.1 _ (guestAt_get hz1)
      rw [if_pos (by simp)] at e1
      show (guestAt y z.1).pledged - (drumAt y d).pledge = _
      omega
    · rw [List.getElem?_set_ne (Ne.symm c)] at hq
      have e2 := h.pledged i _ hq
      rw [if_neg (by simp; omega)] at e1
      omega
theorem ok_pay {y : Yard} (h : YardOk y) {g n : Nat} (hg : g < y.guests.length) (hn : n ≤ (guestAt y g).owed - (guestAt y g).paid) : YardOk (setGuest y g { guestAt y g with paid := (guestAt y g).paid + n }) := by
  have hp := h.paid _ (guestAt_mem hg)
  refine ⟨h.free, h.day, h.dn, ?_, h.good, fun x hx q hq => ?_, fun q hq => ?_, fun i q hq => ?_⟩
  · show (y.guests.set g _).length ≤ 4
    rw [List.length_set]
    exact h.gn
  · show q.1 < (y.guests.set g _).length ∧ q.2.1 ≤ y.day
    rw [List.length_set]
    exact h.lent x hx q hq
  · rcases mem_set (show q ∈ y.guests.set g _ from hq) with hq | hq
    · exact h.paid q hq
    · subst hq
      show (guestAt y g).paid + n ≤ (guestAt y g).owed
      omega
  · have hq : (y.guests.set g { guestAt y g with paid := (guestAt y g).paid + n })[i]? = some q := hq
    by_cases c : i = g
    · rw [c] at hq ⊢
      rw [List.getElem?_set_self hg] at hq
      cases hq
      have := h.pledged g _ (guestAt_get hg)
      show (guestAt y g).pledged = pledgedTo y.drums g
      exact this
    · rw [List.getElem?_set_ne (Ne.symm c)] at hq
      exact h.pledged i _ hq
theorem ok_days {y : Yard} (h : YardOk y) {n : Nat} (hn : ¬ (n = 0 ∨ 1000 < n ∨ 100000 < y.day + n)) : YardOk { y with day := y.day + n } :=
  ⟨h.free, by show y.day + n ≤ 100000; omega, h.dn, h.gn, h.good, fun x hx z hz => ⟨(h.lent x hx z hz).1, Nat.le_trans (h.lent x hx z hz).2 (Nat.le_add_right _ _)⟩, h.paid, h.pledged⟩

/-- a call keeps the yard sound -/
theorem step_ok {y y' : Yard} {c : Call} {r : Ans} (h : YardOk y) (e : step (some y) c = (some y', r)) : YardOk y' := by
  have same : ∀ {q : Ans}, ((some y, q) : State × Ans) = (some y', r) → YardOk y' := fun {q} e => by
    have e1 := (Prod.mk.inj e).1
    cases e1
    exact h
  cases c with
  | begin_ f =>
    have e : (if 100 < f then ((some y : State), say (-22)) else (some ⟨0, f, [], [], 0⟩, say 0)) = (some y', r) := e
    split at e
    · exact same e
    · cases e
      exact ok_new f (by assumption)
  | drum c f w a p =>
    have e : (if c = 0 ∨ f < c ∨ 5000 < f ∨ w = 0 ∨ 5000 < w ∨ 1000 < a ∨ 100000 < p then ((some y : State), say (-22)) else if DRUMS ≤ y.drums.length then (some y, say (-28)) else (some { y with drums := y.drums ++ [⟨c, f, w, a, p, none⟩] }, say (y.drums.length : Int))) = (some y', r) := e
    split at e
    · exact same e
    · split at e
      · exact same e
      · cases e
        exact ok_drum h (by assumption) (by assumption)
  | guest =>
    have e : (if GUESTS ≤ y.guests.length then ((some y : State), say (-28)) else (some { y with guests := y.guests ++ [⟨0, 0, 0⟩] }, say (y.guests.length : Int))) = (some y', r) := e
    split at e
    · exact same e
    · cases e
      exact ok_guest h (by assumption)
  | holds d t => exact same e
  | thickest d m => exact same e
  | fit t m => exact same e
  | plan t a b c d e' => exact same e
  | costs t a b c d e' => exact same e
  | lend d g n =>
    have e : (if isDrum y d = false ∨ isGuest y g = false then ((some y : State), say (-2)) else if n = 0 ∨ 1000 < n then (some y, say (-22)) else if isFree (drumAt y d) = false then (some y, say (-17)) else
          (some (setGuest (setDrum y d { drumAt y d with lent := some (g, y.day, y.day + n) }) g { guestAt y g with pledged := (guestAt y g).pledged + (drumAt y d).pledge }), say (y.day + n : Nat))) = (some y', r) := e
    split at e
    · exact same e
    · rename_i c1
      split at e
      · exact same e
      · split at e
        · exact same e
        · rename_i c3
          cases e
          refine ok_lend h ?_ ?_ (by simpa using c3)
          · rcases Nat.lt_or_ge d y.drums.length with z | z
            · exact z
            · exact absurd (.inl (isDrum_no (by omega))) c1
          · rcases Nat.lt_or_ge g y.guests.length with z | z
            · exact z
            · exact absurd (.inr (isGuest_no (by omega))) c1
  | bring d =>
    have e : (if isDrum y d = false then ((some y : State), say (-2)) else (match (drumAt y d).lent with
        | none => ((some y : State), say (-6))
        | some z => (some (setGuest (setDrum y d { drumAt y d with lent := none }) z.1 { guestAt y z.1 with owed := (guestAt y z.1).owed + charge y (drumAt y d) z.2.1, pledged := (guestAt y z.1).pledged - (drumAt y d).pledge }), ⟨0, Kp244.ints [charge y (drumAt y d) z.2.1, y.day - z.2.1]⟩))) = (some y', r) := e
    split at e
    · exact same e
    · rename_i c1
      have hd : d < y.drums.length := by
        rcases Nat.lt_or_ge d y.drums.length with z | z
        · exact z
        · exact absurd (isDrum_no (by omega)) c1
      cases c2 : (drumAt y d).lent with
      | none => rw [c2] at e; exact same e
      | some z =>
        rw [c2] at e
        cases e
        exact ok_bring h hd c2
  | lose d =>
    have e : (if isDrum y d = false then ((some y : State), say (-2)) else (match (drumAt y d).lent with
        | none => ((some y : State), say (-6))
        | some z => (some { setGuest { y with drums := (y.drums.take d) ++ y.drums.drop (d + 1) } z.1 { guestAt y z.1 with owed := (guestAt y z.1).owed + charge y (drumAt y d) z.2.1, pledged := (guestAt y z.1).pledged - (drumAt y d).pledge } with kept := y.kept + (drumAt y d).pledge }, ⟨0, Kp244.ints [(drumAt y d).pledge]⟩))) = (some y', r) := e
    split at e
    · exact same e
    · rename_i c1
      have hd : d < y.drums.length := by
        rcases Nat.lt_or_ge d y.drums.length with z | z
        · exact z
        · exact absurd (isDrum_no (by omega)) c1
      cases c2 : (drumAt y d).lent with
      | none => rw [c2] at e; exact same e
      | some z =>
        rw [c2] at e
        cases e
        exact ok_lose h hd c2
  | pay g n =>
    have e : (if isGuest y g = false then ((some y : State), say (-2)) else if n = 0 ∨ (guestAt y g).owed - (guestAt y g).paid < n then (some y, say (-22)) else (some (setGuest y g { guestAt y g with paid := (guestAt y g).paid + n }), ⟨0, [((guestAt y g).owed - (guestAt y g).paid - n : Nat)]⟩)) = (some y', r) := e
    split at e
    · exact same e
    · rename_i c1
      split at e
      · exact same e
      · cases e
        refine ok_pay h ?_ (by omega)
        rcases Nat.lt_or_ge g y.guests.length with z | z
        · exact z
        · exact absurd (isGuest_no (by omega)) c1
  | days n =>
    have e : (if n = 0 ∨ 1000 < n ∨ 100000 < y.day + n then ((some y : State), say (-22)) else (some { y with day := y.day + n }, ⟨(y.day + n : Nat), [((late { y with day := y.day + n }).length : Int)]⟩)) = (some y', r) := e
    split at e
    · exact same e
    · cases e
      exact ok_days h (by assumption)
  | owes g => exact same e
  | would g => exact same e
  | lentTo g => exact same e
  | late => exact same e
  | eaten d => exact same e
  | freeOnes => exact same e
  | look d => exact same e
  | sums => exact same e
end Ld
end
section
set_option autoImplicit false
/-! Plain law, part 5: the calls on one flat list, turn by turn. -/
namespace Ld
/-- a call as it's handed in: its number, its numbers -/
def codeOf : Kp244.Call → Nat × List Nat
  | .begin_ f => (0, [f])
  | .drum c f w a p => (1, [c, f, w, a, p])
  | .guest => (2, [])
  | .holds d t => (3, [d, t])
  | .thickest d m => (4, [d, m])
  | .fit t m => (5, [t, m])
  | .plan t a b c d e => (6, [t, a, b, c, d, e])
  | .costs t a b c d e => (7, [t, a, b, c, d, e])
  | .lend d g n => (8, [d, g, n])
  | .bring d => (9, [d])
  | .lose d => (10, [d])
  | .pay g n => (11, [g, n])
  | .days n => (12, [n])
  | .owes g => (13, [g])
  | .would g => (14, [g])
  | .lentTo g => (15, [g])
  | .late => (16, [])
  | .eaten d => (17, [d])
  | .freeOnes => (18, [])
  | .look d => (19, [d])
  | .sums => (20, [])
/-- how many numbers each call has -/
def cnts : List Nat := [1, 5, 0, 2, 2, 2, 6, 6, 3, 1, 1, 2, 1, 1, 1, 1, 0, 1, 0, 1, 0]
theorem whole_id (c : List (List Int)) : PyKp244.whole c = c := by
  unfold PyKp244.whole
  split <;> rfl
theorem shape_some {p : Int} {n k : Nat} (h : PyKp244.shape p = some (n, k)) : k = 0 ∧ ∃ j : Nat, p = (j : Int) ∧ cnts[j]? = some n := by
  unfold PyKp244.shape at h
  by_cases h0 : p = 0
  · rw [if_pos h0] at h
    cases h
    exact ⟨rfl, 0, h0, rfl⟩
  rw [if_neg h0] at h
  by_cases h1 : p = 1
  · rw [if_pos h1] at h
    cases h
    exact ⟨rfl, 1, h1, rfl⟩
  rw [if_neg h1] at h
  by_cases h2 : p = 2
  · rw [if_pos h2] at h
    cases h
    exact ⟨rfl, 2, h2, rfl⟩
  rw [if_neg h2] at h
  by_cases h3 : p = 3
  · rw [if_pos h3] at h
    cases h
    exact ⟨rfl, 3, h3, rfl⟩
  rw [if_neg h3] at h
  by_cases h4 : p = 4
  · rw [if_pos h4] at h
    cases h
    exact ⟨rfl, 4, h4, rfl⟩
  rw [if_neg h4] at h
  by_cases h5 : p = 5
  · rw [if_pos h5] at h
    cases h
    exact ⟨rfl, 5, h5, rfl⟩
  rw [if_neg h5] at h
  by_cases h6 : p = 6
  · rw [if_pos h6] at h
    cases h
    exact ⟨rfl, 6, h6, rfl⟩
  rw [if_neg h6] at h
  by_cases h7 : p = 7
  · rw [if_pos h7] at h
    cases h
    exact ⟨rfl, 7, h7, rfl⟩
  rw [if_neg h7] at h
  by_cases h8 : p = 8
  · rw [if_pos h8] at h
    cases h
    exact ⟨rfl, 8, h8, rfl⟩
  rw [if_neg h8] at h
  by_cases h9 : p = 9
  · rw [if_pos h9] at h
    cases h
    exact ⟨rfl, 9, h9, rfl⟩
  rw [if_neg h9] at h
  by_cases h10 : p = 10
  · rw [if_pos h10] at h
    cases h
    exact ⟨rfl, 10, h10, rfl⟩
  rw [if_neg h10] at h
  by_cases h11 : p = 11
  · rw [if_pos h11] at h
    cases h
    exact ⟨rfl, 11, h11, rfl⟩
  rw [if_neg h11] at h
  by_cases h12 : p = 12
  · rw [if_pos h12] at h
    cases h
    exact ⟨rfl, 12, h12, rfl⟩
  rw [if_neg h12] at h
  by_cases h13 : p = 13
  · rw [if_pos h13] at h
    cases h
    exact ⟨rfl, 13, h13, rfl⟩
  rw [if_neg h13] at h
  by_cases h14 : p = 14
  · rw [if_pos h14] at h
    cases h
    exact ⟨rfl, 14, h14, rfl⟩
  rw [if_neg h14] at h
  by_cases h15 : p = 15
  · rw [if_pos h15] at h
    cases h
    exact ⟨rfl, 15, h15, rfl⟩
  rw [if_neg h15] at h
  by_cases h16 : p = 16
  · rw [if_pos h16] at h
    cases h
    exact ⟨rfl, 16, h16, rfl⟩
  rw [if_neg h16] at h
  by_cases h17 : p = 17
  · rw [if_pos h17] at h
    cases h
    exact ⟨rfl, 17, h17, rfl⟩
  rw [if_neg h17] at h
  by_cases h18 : p = 18
  · rw [if_pos h18] at h
    cases h
    exact ⟨rfl, 18, h18, rfl⟩
  rw [if_neg h18] at h
  by_cases h19 : p = 19
  · rw [if_pos h19] at h
    cases h
    exact ⟨rfl, 19, h19, rfl⟩
  rw [if_neg h19] at h
  by_cases h20 : p = 20
  · rw [if_pos h20] at h
    cases h
    exact ⟨rfl, 20, h20, rfl⟩
  rw [if_neg h20] at h
  cases h
theorem nat_cast {x : Int} (h : 0 ≤ x) : (x.toNat : Int) = x := Int.toNat_of_nonneg h
theorem call_of {p : Int} {args : List Int} {n : Nat} (h : PyKp244.shape p = some (n, 0)) (hl : args.length = n) (h0 : ∀ x ∈ args, 0 ≤ x) :
    ∃ c, Kp244Neutral.callOf [p :: args] = some c ∧ p = ((codeOf c).1 : Int) ∧ args = (codeOf c).2.map (fun (x : Nat) => (x : Int)) := by
  obtain ⟨_, j, rfl, hj⟩ := shape_some h
  match j, hj with
  | 0, hj =>
    obtain rfl : n = 1 := (Option.some.inj hj).symm
    match args, hl, h0 with
    | [x0], _, h0 =>
      have e0 := nat_cast (h0 x0 (by simp))
      refine ⟨.begin_ x0.toNat, rfl, rfl, ?_⟩
      show [x0] = [(x0.toNat : Int)]
      rw [e0]
  | 1, hj =>
    obtain rfl : n = 5 := (Option.some.inj hj).symm
    match args, hl, h0 with
    | [x0, x1, x2, x3, x4], _, h0 =>
      have e0 := nat_cast (h0 x0 (by simp))
      have e1 := nat_cast (h0 x1 (by simp))
      have e2 := nat_cast (h0 x2 (by simp))
      have e3 := nat_cast (h0 x3 (by simp))
      have e4 := nat_cast (h0 x4 (by simp))
      refine ⟨.drum x0.toNat x1.toNat x2.toNat x3.toNat x4.toNat, rfl, rfl, ?_⟩
      show [x0, x1, x2, x3, x4] = [(x0.toNat : Int), (x1.toNat : Int), (x2.toNat : Int), (x3.toNat : Int), (x4.toNat : Int)]
      rw [e0, e1, e2, e3, e4]
  | 2, hj =>
    obtain rfl : n = 0 := (Option.some.inj hj).symm
    match args, hl, h0 with
    | [], _, h0 =>
      refine ⟨.guest , rfl, rfl, ?_⟩
      rfl
  | 3, hj =>
    obtain rfl : n = 2 := (Option.some.inj hj).symm
    match args, hl, h0 with
    | [x0, x1], _, h0 =>
      have e0 := nat_cast (h0 x0 (by simp))
      have e1 := nat_cast (h0 x1 (by simp))
      refine ⟨.holds x0.toNat x1.toNat, rfl, rfl, ?_⟩
      show [x0, x1] = [(x0.toNat : Int), (x1.toNat : Int)]
      rw [e0, e1]
  | 4, hj =>
    obtain rfl : n = 2 := (Option.some.inj hj).symm
    match args, hl, h0 with
    | [x0, x1], _, h0 =>
      have e0 := nat_cast (h0 x0 (by simp))
      have e1 := nat_cast (h0 x1 (by simp))
      refine ⟨.thickest x0.toNat x1.toNat, rfl, rfl, ?_⟩
      show [x0, x1] = [(x0.toNat : Int), (x1.toNat : Int)]
      rw [e0, e1]
  | 5, hj =>
    obtain rfl : n = 2 := (Option.some.inj hj).symm
    match args, hl, h0 with
    | [x0, x1], _, h0 =>
      have e0 := nat_cast (h0 x0 (by simp))
      have e1 := nat_cast (h0 x1 (by simp))
      refine ⟨.fit x0.toNat x1.toNat, rfl, rfl, ?_⟩
      show [x0, x1] = [(x0.toNat : Int), (x1.toNat : Int)]
      rw [e0, e1]
  | 6, hj =>
    obtain rfl : n = 6 := (Option.some.inj hj).symm
    match args, hl, h0 with
    | [x0, x1, x2, x3, x4, x5], _, h0 =>
      have e0 := nat_cast (h0 x0 (by simp))
      have e1 := nat_cast (h0 x1 (by simp))
      have e2 := nat_cast (h0 x2 (by simp))
      have e3 := nat_cast (h0 x3 (by simp))
      have e4 := nat_cast (h0 x4 (by simp))
      have e5 := nat_cast (h0 x5 (by simp))
      refine ⟨.plan x0.toNat x1.toNat x2.toNat x3.toNat x4.toNat x5.toNat, rfl, rfl, ?_⟩
      show [x0, x1, x2, x3, x4, x5] = [(x0.toNat : Int), (x1.toNat : Int), (x2.toNat : Int), (x3.toNat : Int), (x4.toNat : Int), (x5.toNat : Int)]
      rw [e0, e1, e2, e3, e4, e5]
  | 7, hj =>
    obtain rfl : n = 6 := (Option.some.inj hj).symm
    match args, hl, h0 with
    | [x0, x1, x2, x3, x4, x5], _, h0 =>
      have e0 := nat_cast (h0 x0 (by simp))
      have e1 := nat_cast (h0 x1 (by simp))
      have e2 := nat_cast (h0 x2 (by simp))
      have e3 := nat_cast (h0 x3 (by simp))
      have e4 := nat_cast (h0 x4 (by simp))
      have e5 := nat_cast (h0 x5 (by simp))
      refine ⟨.costs x0.toNat x1.toNat x2.toNat x3.toNat x4.toNat x5.toNat, rfl, rfl, ?_⟩
      show [x0, x1, x2, x3, x4, x5] = [(x0.toNat : Int), (x1.toNat : Int), (x2.toNat : Int), (x3.toNat : Int), (x4.toNat : Int), (x5.toNat : Int)]
      rw [e0, e1, e2, e3, e4, e5]
  | 8, hj =>
    obtain rfl : n = 3 := (Option.some.inj hj).symm
    match args, hl, h0 with
    | [x0, x1, x2], _, h0 =>
      have e0 := nat_cast (h0 x0 (by simp))
      have e1 := nat_cast (h0 x1 (by simp))
      have e2 := nat_cast (h0 x2 (by simp))
      refine ⟨.lend x0.toNat x1.toNat x2.toNat, rfl, rfl, ?_⟩
      show [x0, x1, x2] = [(x0.toNat : Int), (x1.toNat : Int), (x2.toNat : Int)]
      rw [e0, e1, e2]
  | 9, hj =>
    obtain rfl : n = 1 := (Option.some.inj hj).symm
    match args, hl, h0 with
    | [x0], _, h0 =>
      have e0 := nat_cast (h0 x0 (by simp))
      refine ⟨.bring x0.toNat, rfl, rfl, ?_⟩
      show [x0] = [(x0.toNat : Int)]
      rw [e0]
  | 10, hj =>
    obtain rfl : n = 1 := (Option.some.inj hj).symm
    match args, hl, h0 with
    | [x0], _, h0 =>
      have e0 := nat_cast (h0 x0 (by simp))
      refine ⟨.lose x0.toNat, rfl, rfl, ?_⟩
      show [x0] = [(x0.toNat : Int)]
      rw [e0]
  | 11, hj =>
    obtain rfl : n = 2 := (Option.some.inj hj).symm
    match args, hl, h0 with
    | [x0, x1], _, h0 =>
      have e0 := nat_cast (h0 x0 (by simp))
      have e1 := nat_cast (h0 x1 (by simp))
      refine ⟨.pay x0.toNat x1.toNat, rfl, rfl, ?_⟩
      show [x0, x1] = [(x0.toNat : Int), (x1.toNat : Int)]
      rw [e0, e1]
  | 12, hj =>
    obtain rfl : n = 1 := (Option.some.inj hj).symm
    match args, hl, h0 with
    | [x0], _, h0 =>
      have e0 := nat_cast (h0 x0 (by simp))
      refine ⟨.days x0.toNat, rfl, rfl, ?_⟩
      show [x0] = [(x0.toNat : Int)]
      rw [e0]
  | 13, hj =>
    obtain rfl : n = 1 := (Option.some.inj hj).symm
    match args, hl, h0 with
    | [x0], _, h0 =>
      have e0 := nat_cast (h0 x0 (by simp))
      refine ⟨.owes x0.toNat, rfl, rfl, ?_⟩
      show [x0] = [(x0.toNat : Int)]
      rw [e0]
  | 14, hj =>
    obtain rfl : n = 1 := (Option.some.inj hj).symm
    match args, hl, h0 with
    | [x0], _, h0 =>
      have e0 := nat_cast (h0 x0 (by simp))
      refine ⟨.would x0.toNat, rfl, rfl, ?_⟩
      show [x0] = [(x0.toNat : Int)]
      rw [e0]
  | 15, hj =>
    obtain rfl : n = 1 := (Option.some.inj hj).symm
    match args, hl, h0 with
    | [x0], _, h0 =>
      have e0 := nat_cast (h0 x0 (by simp))
      refine ⟨.lentTo x0.toNat, rfl, rfl, ?_⟩
      show [x0] = [(x0.toNat : Int)]
      rw [e0]
  | 16, hj =>
    obtain rfl : n = 0 := (Option.some.inj hj).symm
    match args, hl, h0 with
    | [], _, h0 =>
      refine ⟨.late , rfl, rfl, ?_⟩
      rfl
  | 17, hj =>
    obtain rfl : n = 1 := (Option.some.inj hj).symm
    match args, hl, h0 with
    | [x0], _, h0 =>
      have e0 := nat_cast (h0 x0 (by simp))
      refine ⟨.eaten x0.toNat, rfl, rfl, ?_⟩
      show [x0] = [(x0.toNat : Int)]
      rw [e0]
  | 18, hj =>
    obtain rfl : n = 0 := (Option.some.inj hj).symm
    match args, hl, h0 with
    | [], _, h0 =>
      refine ⟨.freeOnes , rfl, rfl, ?_⟩
      rfl
  | 19, hj =>
    obtain rfl : n = 1 := (Option.some.inj hj).symm
    match args, hl, h0 with
    | [x0], _, h0 =>
      have e0 := nat_cast (h0 x0 (by simp))
      refine ⟨.look x0.toNat, rfl, rfl, ?_⟩
      show [x0] = [(x0.toNat : Int)]
      rw [e0]
  | 20, hj =>
    obtain rfl : n = 0 := (Option.some.inj hj).symm
    match args, hl, h0 with
    | [], _, h0 =>
      refine ⟨.sums , rfl, rfl, ?_⟩
      rfl
  | j + 21, hj => cases hj
theorem calls_cons {f : Nat} {p : Int} {r : List Int} {cs : List (List (List Int))} (h : PyFlat.calls PyKp244.shape f (p :: r) = some cs) :
    ∃ f' n cs', PyKp244.shape p = some (n, 0) ∧ n ≤ r.length ∧ cs = [p :: r.take n] :: cs' ∧ PyFlat.calls PyKp244.shape f' (r.drop n) = some cs' := by
  cases f with
  | zero => cases h
  | succ f =>
    cases hs : PyKp244.shape p with
    | none =>
      have h : (match (match PyKp244.shape p with
        | none => none
        | some (n, k) => if r.length < n then none else match PyFlat.rows k (r.drop n) with
          | none => none
          | some (xs, t) => some ((p :: r.take n) :: xs, t)) with
        | none => none
        | some (c, t) => match PyFlat.calls PyKp244.shape f t with
          | none => none
          | some cs => some (c :: cs)) = some cs := h
      rw [hs] at h
      cases h
    | some nk =>
      obtain ⟨n, k⟩ := nk
      obtain ⟨rfl, _⟩ := shape_some hs
      have h : (match (match PyKp244.shape p with
        | none => none
        | some (n, k) => if r.length < n then none else match PyFlat.rows k (r.drop n) with
          | none => none
          | some (xs, t) => some ((p :: r.take n) :: xs, t)) with
        | none => none
        | some (c, t) => match PyFlat.calls PyKp244.shape f t with
          | none => none
          | some cs => some (c :: cs)) = some cs := h
      rw [hs] at h
      have h : (match (if r.length < n then none else some ([p :: r.take n], r.drop n)) with
        | none => none
        | some (c, t) => match PyFlat.calls PyKp244.shape f t with
          | none => none
          | some cs => some (c :: cs)) = some cs := h
      by_cases c : r.length < n
      · rw [if_pos c] at h
        cases h
      · rw [if_neg c] at h
        have h : (match PyFlat.calls PyKp244.shape f (r.drop n) with
          | none => none
          | some cs => some ([p :: r.take n] :: cs)) = some cs := h
        cases e : PyFlat.calls PyKp244.shape f (r.drop n) with
        | none => rw [e] at h; cases h
        | some cs' =>
          rw [e] at h
          cases h
          exact ⟨f, n, cs', rfl, by omega, rfl, e⟩
/-- one turn of the answers -/
theorem turn_law {s : Kp244.State} {c : Kp244.Call} {x : List (List Int)} {cs : List (List (List Int))} {F total : List Int} (hc : Kp244Neutral.callOf x = some c)
    (h : total = F ++ PyFlat.told (PyFlat.played Kp244Neutral.step s (x :: cs))) :
    total = (F ++ ((((Kp244.step s c).2.num :: (Kp244.step s c).2.nums).length : Nat) : Int) :: ((Kp244.step s c).2.num :: (Kp244.step s c).2.nums)) ++ PyFlat.told (PyFlat.played Kp244Neutral.step (Kp244.step s c).1 cs) := by
  have e : Kp244Neutral.step s x = ((Kp244.step s c).1, (Kp244.step s c).2.num :: (Kp244.step s c).2.nums) := by
    unfold Kp244Neutral.step
    rw [hc]
  rw [h]
  show F ++ PyFlat.told ((Kp244Neutral.step s x).2 :: PyFlat.played Kp244Neutral.step (Kp244Neutral.step s x).1 cs) = _
  rw [e, List.append_assoc]
  rfl
/-- what's asked: the calls are read, the answer is short -/
theorem asked_of {l : List Int} (h : PyKp244.answers_asked l = true) : ∃ cs, PyFlat.calls PyKp244.shape l.length l = some cs ∧ PyKp244.answers l = PyFlat.told (PyFlat.played Kp244Neutral.step Kp244Neutral.start cs) ∧ (PyKp244.answers l).length ≤ 10000000 := by
  unfold PyKp244.answers_asked at h
  cases e : PyFlat.calls PyKp244.shape l.length l with
  | none => rw [e] at h; cases h
  | some cs =>
    rw [e] at h
    refine ⟨cs, rfl, ?_, ?_⟩
    · unfold PyKp244.answers PyKp244.calls
      rw [e]
      show PyFlat.told (PyFlat.played Kp244Neutral.step Kp244Neutral.start (cs.map PyKp244.whole)) = _
      have e2 : PyKp244.whole = id := funext whole_id
      rw [e2, List.map_id]
    · have h := (Bool.and_eq_true_iff.mp h).2
      exact of_decide_eq_true h
end Ld
end
/-! The program's own error, Refusal(code), over Exception. -/
namespace PySem
namespace LowX
open PySem.W PySem.Calls PyProof.Rows PySem.HandSPX
/-! ### the text of __init__ -/
def iA (p1 p2 : Pos) : Arguments := { posonlyargs := [], args := [{ arg := "self", annotation := none, pos := p1 }, { arg := "code", annotation := none, pos := p2 }], vararg := none, kwonlyargs := [], kw_defaults := [], kwarg := none, defaults := [] }
def iB (q1 q2 q3 q4 : Pos) : List Stmt := [.Assign [.Attribute (.Name "self" q1) "code" q2] (.Name "code" q3) q4]
def iS : Scope := { kind := .function, names := [(PySem.Str.ofString "self", .local), (PySem.Str.ofString "code", .local)], isGenerator := false, isCoroutine := false, more := [] }
/-- what the written part says of Low, at C, and of its __init__, at fI -/
structure LowTxt (K : Frag) (mg : Str → Option Value) (C fI : Addr) : Prop where
  gC : mg "Refusal" = some (.ref C)
  cls : ∃ nm q N bs sn sub ab col dd k0 k1 k2 k3 k5, K.lookup C = some (excClassObj nm q C N bs PySem.ESX.exTail true sn sub ab col dd k0 k1 k2 k3 k5 "Exception.__new__")
  sa : findIn K (.ref C) "__setattr__" = some (some (.builtin "object.__setattr__"))
  ga : findIn K (.ref C) "__getattribute__" = some (some (.builtin "BaseException.__getattribute__"))
  gg : findIn K (.ref C) "__getattr__" = some none
  noN : findIn K (.ref C) "code" = some none
  iC : findIn K (.ref C) "__init__" = some (some (.ref fI))
  tC : typeIn K (.ref fI) = some (.type "function")
  kC : keepIn K (.ref C) = true
  exC : subIn K (.ref C) (.type "BaseException") = some true
  tyC : typeIn K (.ref C) = some (.type "type")
  hdC : hasDictIn K C = true
  te : exmOne K (.ref C) (.ref C) = some true
  fn : ∃ (oc : Value) (od : Option Addr) (doc pm : Value) (an : Option Addr) (cdv ct : Value) (osl : Array (Option Value)) (p1 p2 q1 q2 q3 q4 : Pos),
    K.lookup fI = some ⟨oc, od, .func (fnOf "__init__" "Refusal.__init__" (iA p1 p2) (iB q1 q2 q3 q4) iS .none .none doc pm an cdv ct), osl⟩ ∧ codeIn K cdv "Refusal.__init__" = true
theorem one_size (v : Value) : [v].length ≤ sizeLine := by
  rw [sizeLine_eq]
  exact (by decide : 1 ≤ 16777216)
theorem kept_but {K : Frag} {h h' : Heap} {x : Addr} (X : K.In h) (hx : K.lookup x = none) (k : ∀ b o, b ≠ x → h.get? b = some o → h'.get? b = some o) : K.In h' := fun a o e =>
  k a o (fun z => by rw [z, hx] at e; cases e) (X a o e)
theorem ldC {M : Model} {s : Shared} {name : Str} {scope : Scope} {L a : Addr} {cd : Value} {m : Str → Option Value} {x : Str} {pos : Pos} {v : Value} {Q : Value → Shared → Prop} {A : Around} {E : Value → Shared → Prop} (hn : s.heap.Ns L m) (hv : m x = some v) (h : Q v s)
    (hk : scope.kind = .function := by rfl) (hl : (envOfC name scope L a cd).kindOf x = some .local := by rfl) (hd : (x == ("__debug__" : Str)) = false := by decide) :
    wpAny M A (eval (.Name x pos) (envOfC name scope L a cd)) Q E s := wpAny_Name (wpAny_loadName_local hk hl hn hv h) hd
/-- what __init__ leaves of a fresh exception at x -/
structure InitEnd (h h' : Heap) (x C dx t1 : Addr) (v : Value) : Prop where
  keep : ∀ b o, b ≠ x → h.get? b = some o → h'.get? b = some o
  obj : h'.get? x = some { cls := .ref C, dict := some dx, data := .fields #[.ref t1, .none, .none, .none, .bool false, .none] }
  dbig : h.objs.size ≤ dx
  dne : dx ≠ x
  ns : h'.Ns1 dx (fun y => if y = "code" then some v else none)
/-- a made Low -/
structure OwnMade (h h' : Heap) (e C d : Addr) (v : Value) : Prop where
  keep : ∀ b o, h.get? b = some o → h'.get? b = some o
  new : h.objs.size ≤ e
  obj : ∃ oe vs, h'.get? e = some oe ∧ oe.cls = .ref C ∧ oe.dict = some d ∧ oe.data = .fields vs ∧ vs[1]? = some .none
  dbig : h.objs.size ≤ d
  dne : d ≠ e
  ns : h'.Ns1 d (fun y => if y = "code" then some v else none)
section
variable {prog : Program} {w : World} {A : Around} {E : Value → Shared → Prop} {R : Result → Shared → Prop} {s : Shared} {K : Frag} {mg : Str → Option Value} {C fI : Addr}
theorem low_init (T : LowTxt K mg C fI) {x t0 : Addr} {v : Value} (X : K.In s.heap) (hlim : s.heap.NoLimit) (hx : s.heap.get? x = some (excO C t0)) (hnx : K.lookup x = none) (hroom : A.depth < recursionLimit)
    (hq : ∀ h' tk dx, InitEnd s.heap h' x C dx t0 v → R (.ok (.ret .none)) { s with heap := h', toks := tk }) :
    codeAny (model prog w) A (.call (.ref fI) ⟨[.ref x, v], []⟩) R s := by
  obtain ⟨oc, od, doc, pm, an, cdv, ct, osl, p1, p2, q1, q2, q3, q4, ho, hcd⟩ := T.fn
  obtain ⟨nm, q, N, bs, sn, sub, ab, col, dd, k0, k1, k2, k3, k5, hC⟩ := T.cls
  have hcl : clsIn K C = some { name := nm, bases := bs, mro := .ref C :: PySem.ESX.exTail, ns := N, qualname := q, hasDict := true, slotNames := sn, subclasses := sub, abstract := ab, collection := col, hasDel := false } := by unfold clsIn; rw [hC] <;> rfl
  refine Att.call_fn (binds := [("self", .ref x), ("code", v)]) X hlim ho hcd hroom (BindsTo.of_eq (by first | rfl | with_unfolding_all rfl)) (by first | rfl | decide | with_unfolding_all rfl) (fun s₁ IC => ?_) rfl rfl rfl
  obtain ⟨h₁, tk₁, rfl⟩ := IC.toInCall.same
  have k : ∀ b o, s.heap.get? b = some o → h₁.get? b = some o := IC.toInCall.keep
  have hn := IC.toInCall.ns
  have hxL : s.heap.objs.size ≠ x := Nat.ne_of_gt (Heap.lt_size hx)
  have X₁ : K.In h₁ := X.keeps k
  have hx₁ := k _ _ hx
  -- self.by = by
  show wpAny _ _ (execs _ _) _ _ _
  refine wpAny_execs_cons (plainObj_wpAny_Assign_Attribute ?_)
  refine ldC (v := v) hn (by first | rfl | with_unfolding_all rfl | kernel_rfl) (ldC (v := .ref x) hn (by first | rfl | with_unfolding_all rfl | kernel_rfl) ?_)
  refine set_plain X₁ (ox := excO C t0) (od := none) ⟨hx₁, rfl, rfl, trivial⟩ T.sa ?_
  refine PySem.ESX.osa_new X₁ hx₁ hcl rfl rfl T.noN (fun h₃ tk₃ dx k₃ dn dne hx₃ hn₃ => ?_)
  show wpAny _ _ (execs _ _) _ _ _
  have z : s.heap.objs.size < h₁.objs.size := hn.lt
  exact wpAny_execs_nil (hq h₃ tk₃ dx ⟨fun b o hb e => k₃ b o hb (k b o e), hx₃, Nat.le_of_lt (Nat.lt_of_lt_of_le z dn), dne, hn₃⟩)
theorem low_made (T : LowTxt K mg C fI) {v : Value} (X : K.In s.heap) (hlim : s.heap.NoLimit) (hroom : A.depth + 1 < recursionLimit)
    (hq : ∀ h' tk e d, OwnMade s.heap h' e C d v → R (.ok (.ret (.ref e))) { s with heap := h', toks := tk }) :
    codeAny (model prog w) A (.call (.ref C) ⟨[v], []⟩) R s := by
  obtain ⟨nm, q, N, bs, sn, sub, ab, col, dd, k0, k1, k2, k3, k5, hC⟩ := T.cls
  obtain ⟨hp, g, dr, tk, os⟩ := s
  have k : ∀ b o, hp.get? b = some o → ((hp.push (kdv_tup [v])).push (excO C hp.objs.size)).get? b = some o := fun b o e => Heap.get?_push_of_some _ (Heap.get?_push_of_some _ e)
  have hget : ((hp.push (kdv_tup [v])).push (excO C hp.objs.size)).get? (hp.objs.size + 1) = some (excO C hp.objs.size) := by heap_get
  have hnx : K.lookup (hp.objs.size + 1) = none := by
    cases e : K.lookup (hp.objs.size + 1) with
    | none => rfl
    | some o =>
      have z : hp.get? (hp.objs.size + 1) = some o := X _ _ e
      exact absurd (Nat.lt_of_succ_lt (Heap.lt_size z)) (Nat.lt_irrefl _)
  refine call_own F.excBase_Exception (fun _ => rfl) (X _ _ hC) (looks_findIn X T.iC) (fun self => bind_fn X self T.tC) (one_size v) ?_
  refine low_init (s := ⟨(hp.push (kdv_tup [v])).push (excO C hp.objs.size), g, dr, tk, os⟩) T (X.keeps k) (hlim.keeps k) hget hnx ?_ fun h' tk' dx ⟨k', hx, dn, dne, hns⟩ => ?_
  · show A.depth + 1 < recursionLimit
    exact hroom
  · have old : ∀ b o, hp.get? b = some o → h'.get? b = some o := fun b o e => k' b o (Nat.ne_of_lt (Nat.lt_succ_of_lt (Heap.lt_size e))) (k b o e)
    have z : hp.objs.size + 1 + 1 ≤ dx := by
      first
        | (simpa only [Heap.size_push] using dn)
        | exact dn
        | (have q := dn; rw [Heap.size_push, Heap.size_push] at q; exact q)
    exact ⟨rfl, hq h' tk' (hp.objs.size + 1) dx ⟨old, Nat.le_succ _, ⟨_, _, hx, rfl, rfl, rfl, rfl⟩, Nat.le_trans (Nat.le_trans (Nat.le_succ _) (Nat.le_succ _)) z, dne, hns⟩⟩
end
end LowX
end PySem
namespace L2
open PySem PySem.Spec PyProof.Rows
theorem relO_low {v : V} {v' : Value} (r : RelV v v') (f : Str) : RelO (List.lookup f [(("code" : Str), v)]) (if f = "code" then some v' else none) := by
  by_cases hw : f = "code"
  · subst hw
    rw [if_pos rfl]
    have q : List.lookup ("code" : Str) [(("code" : Str), v)] = some v := by simp [List.lookup]
    rw [q]
    exact r
  · rw [if_neg hw]
    have qw : (f == ("code" : Str)) = false := by simpa using hw
    have q2 : List.lookup f [(("code" : Str), v)] = none := by simp [List.lookup, qw]
    rw [q2]
    trivial
section
variable {X : Cx} {C fI : Addr}
/-- Low(e) -/
def tMkLow (C : Addr) (ta : TA) : St → Hp → XK → Prop := fun σ H Q => ta σ H fun vs H1 => ∃ v, vs = [v] ∧ ∀ d, H1 d = none → Q (.ref C) (some d) (upd H1 d (.xd [(("code" : Str), v)]))
theorem pmk_low {a : Expr} {ta : TA} {p pos : Pos} {k : Nat} (T : PySem.LowX.LowTxt X.K X.mg C fI) (hr : Room k X.A) (ha : PA X [a] ta) (hg : Gl X "Refusal" := by rfl)
    (he : starEach (a :: []) X.env = (false, eval a X.env) :: starEach [] X.env := by rfl) (hpl : (backTo pos (starEach [] X.env)).any (·.1) = false := by rfl) :
    PMk X (.Call (.Name "Refusal" p) [a] [] pos) (tMkLow C ta) := by
  intro pins s σ H Q I h
  refine wpAny_Call_Name_kw (ld_glob I hg T.gC ?_)
  refine PySem.W.callWith_K (h₀ := X.base) I.ok.mod.kin T.kC (thn (ha.run pos pins s σ H _ I h) fun us s1 hh => ?_) he hpl
  obtain ⟨vs, H1, I1, r1, v, ev, q1⟩ := hh
  subst ev
  refine ⟨I1.kIn, ?_⟩
  cases r1 with
  | cons rv rn =>
    rename_i v' us'
    cases rn
    show wpAny _ _ (call (.ref C) [v']) _ _ _
    have hlim := I1.nolimit
    obtain ⟨hp, g, dr, tk, os⟩ := s1
    refine wpAny_call (PySem.LowX.low_made T I1.kIn hlim (by have := hr.dp; omega) fun h' tk' e d M => ?_)
    show MkP X pins σ Q (.ref e) ⟨h', g, dr, tk', os⟩
    obtain ⟨oe, fv, hoe, hc, hd, hdat, h1⟩ := M.obj
    have hns := M.ns
    obtain ⟨G', g1, g2⟩ := restrict h' fun b => decide (b ≠ e)
    have gk : ∀ b, b ≠ e → G'.get? b = h'.get? b := fun b hb => g1 b (decide_eq_true hb)
    have ge : G'.get? e = none := g2 e (by simp)
    have old : ∀ b o, hp.get? b = some o → G'.get? b = some o := fun b o q => (gk b (Nat.ne_of_lt (Nat.lt_of_lt_of_le (Heap.lt_size q) M.new))).trans (M.keep b o q)
    have ob : ObjOk X.prog X.w (upd H1 d (.xd [(("code" : Str), v)])) G' d (.xd [(("code" : Str), v)]) :=
      ⟨_, hns.at (fun o q => (gk d M.dne).trans q), fun f => relO_low rv f⟩
    have J : Inv X pins σ (upd H1 d (.xd [(("code" : Str), v)])) ⟨G', g, dr, tk', os⟩ := I1.laid (t' := tk') old M.dbig ob
    refine ⟨e, oe, fv, ⟨G', g, dr, tk', os⟩, _, .ref C, some d, rfl, J, fun b o q => ?_, ge, hoe, ⟨hc, hd⟩, hdat, h1, ?_, rfl, I1.bare, raises_own T.exC T.tyC, q1 d (I1.hok.fresh M.dbig)⟩
    · by_cases hb : b = e
      · have q' : G'.get? b = some o := q
        rw [hb, ge] at q'; cases q'
      · exact (gk b hb).symm.trans q
    · rw [upd_ne (Ne.symm M.dne)]
      exact I1.hok.fresh M.new
/-- raise Low(e) -/
def tRaiseLow (C : Addr) (W : WX) (ta : TA) : TS := fun _ σ H => tMkLow C ta σ H fun cls d H' => W cls d σ H'
theorem ps_raiseLow {a : Expr} {ta : TA} {W : WX} {p pos pos2 : Pos} {k : Nat} (hc : X.calm = true) (T : PySem.LowX.LowTxt X.K X.mg C fI) (hr : Room k X.A) (tk : Takes X W) (ha : PA X [a] ta) (hg : Gl X "Refusal" := by rfl)
    (he : starEach (a :: []) X.env = (false, eval a X.env) :: starEach [] X.env := by rfl) (hpl : (backTo pos (starEach [] X.env)).any (·.1) = false := by rfl) :
    PS X (.Raise (some (.Call (.Name "Refusal" p) [a] [] pos)) none pos2) (tRaiseLow C W ta) := ps_raise hc tk (pmk_low T hr ha hg he hpl)
/-- low.by, low the exception that the suite holds (at a; its class cls, its dict d) -/
def tByLow (C : Addr) (a : Addr) (cls : Value) (d : Option Addr) (te : TE) : TE := fun σ H Q => te σ H fun x H1 => x = .ref a ∧ cls = .ref C ∧ ∃ (dd : Addr) (v : V), d = some dd ∧ H1 dd = some (.xd [(("code" : Str), v)]) ∧ Q v H1
theorem pe_byLow {a : Addr} {oe : Obj} {cls : Value} {d : Option Addr} {pn : List (Addr × Obj)} {e : Expr} {te : TE} {pos : Pos} (T : PySem.LowX.LowTxt X.K X.mg C fI) (hz : Zc cls d oe) (hf : ∃ vs, oe.data = .fields vs) (he : PE (X.suite a ((a, oe) :: pn)) e te)
    (hb : attributeBase e "code" X.env (eval e X.env) = eval e X.env := by rfl) :
    PE (X.suite a ((a, oe) :: pn)) (.Attribute e "code" pos) (tByLow C a cls d te) := by
  refine ⟨fun pins s σ H Q I h => ?_⟩
  refine attr_of hb (thn (he.run pins s σ H _ I h) fun u s1 hh => ?_)
  obtain ⟨x, H1, I1, rx, ex, ec, dd, v, ed, ea, q⟩ := hh
  subst ex
  obtain rfl : u = Value.ref a := rx
  subst ec
  subst ed
  obtain ⟨ha, _⟩ := I1.pin (a, oe) (List.mem_append_left _ List.mem_cons_self)
  obtain ⟨vs, hd⟩ := hf
  have hx : ObjOk X.prog X.w H1 s1.heap dd (.xd [(("code" : Str), v)]) := I1.hok dd _ ea
  obtain ⟨mA, hns, hr⟩ := hx
  obtain ⟨od, ho, hl⟩ := lookIn_ns hns
  have l : List.lookup ("code" : Str) [(("code" : Str), v)] = some v := by simp [List.lookup]
  obtain ⟨u, hu, ru⟩ := RelO.some_of (v := v) (o := mA "code") (by rw [← l]; exact hr "code")
  have J : PySem.W.InstAt s1.heap a oe C (some od) := ⟨ha, hz.1, by unfold PySem.W.notCls; rw [hd] <;> rfl, by rw [hz.2]; exact ho⟩
  exact HandSPX.exc_get I1.kIn J T.ga T.gg T.exC (PySem.W.findObj_own T.hdC T.noN rfl (by rw [hl, hu])) (handed_of ru) ⟨v, H1, I1.tok _, ru, q⟩
end
end L2

namespace L2
open PySem PySem.Spec PyProof.Rows
/-- an if whose test is known -/
theorem if_true_of {c : Bool} {A B : Prop} (hc : c = true) (h : A) : if c = true then A else B := by
  rw [if_pos hc]
  exact h
theorem if_false_of {c : Bool} {A B : Prop} (hc : c = false) (h : B) : if c = true then A else B := by
  rw [hc, if_neg Bool.false_ne_true]
  exact h
end L2
namespace Ld
open PySem PySem.Spec PyProof.Rows L2
/-- o.m(e, ..) within a try: what it raises is wished for at the slots as they stand -/
def tMethS (C : Addr) (m : Str) (sp : Sp) (E : L2.St → XK) (ta : TE) (t : TA) : TE := fun σ H Q => ta σ H fun x H1 => ∃ a dx fs, x = .ref a ∧ H1 a = some (.ins C dx fs) ∧ fs.lookup m = none ∧ t σ H1 fun vs H2 => sp (x :: vs) H2 Q (E σ)
theorem pe_methS {X : Cx} {CX : CXT} {k : Nat} {f C : Addr} {fd : FuncData} {ps : List Str} {sp : Sp} {E : L2.St → XK} {m : Str} {pos apos : Pos} {e o : Expr} {es : List Expr} {ta : TE} {t : TA} {pl : Sem Bool} (he : PE X o ta) (c : Cls X.K C) (hm : Meth X.K C m f)
    (F : FnOk X.prog X.w X.K X.mg X.base CX k f fd ps sp) (hr : Room k X.A) (hb : Binds X.K fd ps []) (hx : ∀ σ, PassesAt CX X σ (E σ)) (ha : PA X (e :: es) t)
    (hst : starEach (e :: es) X.env = (false, eval e X.env) :: starEach es X.env := by rfl) (hpl : (backTo pos (starEach es X.env)).any (·.1) = false := by rfl)
    (ht : eval (.Call (.Attribute o m apos) (e :: es) [] pos) X.env = (do
      let ov ← eval o X.env
      standAt apos.atName
      let (f, first) ← holding [ov] (getMethod ov m pl)
      callWith pos f first (backTo pos (starEach (e :: es) X.env)) (backToKw pos (keywordEach [] X.env))) := by rfl) :
    PE X (.Call (.Attribute o m apos) (e :: es) [] pos) (tMethS C m sp E ta t) := by
  refine ⟨fun pins s σ H Q I h => ?_⟩
  refine PySem.W.methodCall_KW (pl := pl) (thn (he.run pins s σ H _ I h) fun u s1 ⟨x, H1, I1, rx, a, dx, fs, ex, ea, l, q⟩ => ?_) ht
  subst ex
  obtain rfl : u = Value.ref a := rx
  refine getmeth_ok I1 ea c hm l ?_
  refine PySem.W.callWith_K (first := [.ref a]) (h₀ := X.base) I.ok.mod.kin hm.kp (thn (ha.run pos pins s1 σ H1 _ I1 q) fun us s2 ⟨vs, H2, I2, r, q2⟩ => ⟨I2.kIn, ?_⟩) hst hpl
  exact run_fnS (us := .ref a :: us) (vs := .ref a :: vs) F hr hb (hx σ) I2 (.cons rfl r) q2
/-- an error of the class at S is what «except S» names -/
theorem exm_self {K : PySem.W.Frag} {S : Addr} (h1 : PySem.W.subIn K (.ref S) (.type "BaseException") = some true) (h2 : PySem.W.isClsIn K S = true) (h3 : PySem.W.typeIn K (.ref S) = some (.type "type")) (h4 : PySem.W.subIn K (.ref S) (.ref S) = some true) :
    PySem.W.exmOne K (.ref S) (.ref S) = some true := by
  have e1 : (PySem.W.subIn K (.ref S) (.type "BaseException") == some true) = true := by rw [h1] <;> rfl
  have e2 : ((PySem.W.clsIn K S).isSome && PySem.W.typeIn K (.ref S) == some (.type "type")) = true := by
    have h2' : (PySem.W.clsIn K S).isSome = true := h2
    rw [h2', h3] <;> rfl
  show (if (PySem.W.subIn K (.ref S) (.type "BaseException") == some true) = true then (if ((PySem.W.clsIn K S).isSome && PySem.W.typeIn K (.ref S) == some (.type "type")) = true then PySem.W.subIn K (.ref S) (.ref S) else none) else none) = some true
  rw [if_pos e1, if_pos e2]
  exact h4
end Ld
/-! The program's text by places; what the top has written. -/
namespace Ld
open PySem PySem.Spec PyProof.Rows L2
/-- how many whole numbers each call has -/
def counts : List Int := [1, 5, 0, 2, 2, 2, 6, 6, 3, 1, 1, 2, 1, 1, 1, 1, 0, 1, 0, 1, 0]
/-- the i-th statement of the program -/
def top (i : Nat) : Stmt := PySem.Challenge.pw_lentdrums_s01_answers.main.body.getD i (.Pass ⟨0, 0, 0, 0⟩)
abbrev s_Drum_init : Stmt := inClass (top 3) 0
abbrev s_Drum_layers : Stmt := inClass (top 3) 1
abbrev s_Drum_turns : Stmt := inClass (top 3) 2
abbrev s_Drum_metres : Stmt := inClass (top 3) 3
abbrev s_Drum_thickest : Stmt := inClass (top 3) 4
abbrev s_Drum_charged : Stmt := inClass (top 3) 5
abbrev s_longer_plans : Stmt := top 4
abbrev s_fits : Stmt := top 5
abbrev s_best_plan : Stmt := top 6
abbrev s_taken : Stmt := top 7
abbrev s_drum_count : Stmt := top 8
abbrev s_daily_cost : Stmt := top 9
abbrev s_need : Stmt := top 29
abbrev s_told_list : Stmt := top 30
abbrev s_Guest_init : Stmt := inClass (top 31) 0
abbrev s_Yard_init : Stmt := inClass (top 32) 0
abbrev s_Yard_drum_at : Stmt := inClass (top 32) 1
abbrev s_Yard_lent_drum : Stmt := inClass (top 32) 2
abbrev s_Yard_guest_at : Stmt := inClass (top 32) 3
abbrev s_Yard_add_drum : Stmt := inClass (top 32) 4
abbrev s_Yard_add_guest : Stmt := inClass (top 32) 5
abbrev s_Yard_need_thick : Stmt := inClass (top 32) 6
abbrev s_Yard_told_room : Stmt := inClass (top 32) 7
abbrev s_Yard_thickest : Stmt := inClass (top 32) 8
abbrev s_Yard_free_drums : Stmt := inClass (top 32) 9
abbrev s_Yard_fit : Stmt := inClass (top 32) 10
abbrev s_Yard_plan : Stmt := inClass (top 32) 11
abbrev s_Yard_told_costs : Stmt := inClass (top 32) 12
abbrev s_Yard_lend : Stmt := inClass (top 32) 13
abbrev s_Yard_charge : Stmt := inClass (top 32) 14
abbrev s_Yard_bring : Stmt := inClass (top 32) 15
abbrev s_Yard_lose : Stmt := inClass (top 32) 16
abbrev s_Yard_pay : Stmt := inClass (top 32) 17
abbrev s_Yard_pass_days : Stmt := inClass (top 32) 18
abbrev s_Yard_lent_to : Stmt := inClass (top 32) 19
abbrev s_Yard_late_drums : Stmt := inClass (top 32) 20
abbrev s_Yard_told_owed : Stmt := inClass (top 32) 21
abbrev s_Yard_told_would : Stmt := inClass (top 32) 22
abbrev s_Yard_told_lent : Stmt := inClass (top 32) 23
abbrev s_Yard_told_eaten : Stmt := inClass (top 32) 24
abbrev s_Yard_told_drum : Stmt := inClass (top 32) 25
abbrev s_Yard_told_sums : Stmt := inClass (top 32) 26
abbrev s_Yard_respond_drums : Stmt := inClass (top 32) 27
abbrev s_Yard_respond_guests : Stmt := inClass (top 32) 28
abbrev s_Desk_init : Stmt := inClass (top 33) 0
abbrev s_Desk_respond : Stmt := inClass (top 33) 1
abbrev s_answers : Stmt := top 34
theorem sc_Drum_init : FnScope ["self", "core", "flange", "wide", "daily", "pledge"] ["self", "core", "flange", "wide", "daily", "pledge"] (defScope s_Drum_init) := ⟨rfl, rfl, rfl, by decide +kernel, rfl, by decide +kernel, by decide +kernel⟩
theorem sc_Drum_layers : FnScope ["self", "thick"] ["self", "thick"] (defScope s_Drum_layers) := ⟨rfl, rfl, rfl, by decide +kernel, rfl, by decide +kernel, by decide +kernel⟩
theorem sc_Drum_turns : FnScope ["self", "thick"] ["self", "thick"] (defScope s_Drum_turns) := ⟨rfl, rfl, rfl, by decide +kernel, rfl, by decide +kernel, by decide +kernel⟩
theorem sc_Drum_metres : FnScope ["self", "thick", "turns", "total", "layer"] ["self", "thick"] (defScope s_Drum_metres) := ⟨rfl, rfl, rfl, by decide +kernel, rfl, by decide +kernel, by decide +kernel⟩
theorem sc_Drum_thickest : FnScope ["self", "metres", "thick"] ["self", "metres"] (defScope s_Drum_thickest) := ⟨rfl, rfl, rfl, by decide +kernel, rfl, by decide +kernel, by decide +kernel⟩
theorem sc_Drum_charged : FnScope ["self", "today", "free_days"] ["self", "today", "free_days"] (defScope s_Drum_charged) := ⟨rfl, rfl, rfl, by decide +kernel, rfl, by decide +kernel, by decide +kernel⟩
theorem sc_longer_plans : FnScope ["plans", "numbers", "found", "plan", "number"] ["plans", "numbers"] (defScope s_longer_plans) := ⟨rfl, rfl, rfl, by decide +kernel, rfl, by decide +kernel, by decide +kernel⟩
theorem sc_fits : FnScope ["plan", "lengths", "room", "number", "place", "length"] ["plan", "lengths", "room"] (defScope s_fits) := ⟨rfl, rfl, rfl, by decide +kernel, rfl, by decide +kernel, by decide +kernel⟩
theorem sc_best_plan : FnScope ["drums", "lengths", "thick", "room", "number", "drum", "plans", "length", "best", "best_rank", "plan", "rank"] ["drums", "lengths", "thick"] (defScope s_best_plan) := ⟨rfl, rfl, rfl, by decide +kernel, rfl, by decide +kernel, by decide +kernel⟩
theorem sc_taken : FnScope ["plan", "place", "number"] ["plan"] (defScope s_taken) := ⟨rfl, rfl, rfl, by decide +kernel, rfl, by decide +kernel, by decide +kernel⟩
theorem sc_drum_count : FnScope ["plan"] ["plan"] (defScope s_drum_count) := ⟨rfl, rfl, rfl, by decide +kernel, rfl, by decide +kernel, by decide +kernel⟩
theorem sc_daily_cost : FnScope ["drums", "plan", "number"] ["drums", "plan"] (defScope s_daily_cost) := ⟨rfl, rfl, rfl, by decide +kernel, rfl, by decide +kernel, by decide +kernel⟩
theorem sc_need : FnScope ["holds", "code"] ["holds", "code"] (defScope s_need) := ⟨rfl, rfl, rfl, by decide +kernel, rfl, by decide +kernel, by decide +kernel⟩
theorem sc_told_list : FnScope ["numbers"] ["numbers"] (defScope s_told_list) := ⟨rfl, rfl, rfl, by decide +kernel, rfl, by decide +kernel, by decide +kernel⟩
theorem sc_Guest_init : FnScope ["self"] ["self"] (defScope s_Guest_init) := ⟨rfl, rfl, rfl, by decide +kernel, rfl, by decide +kernel, by decide +kernel⟩
theorem sc_Yard_init : FnScope ["self", "free_days"] ["self", "free_days"] (defScope s_Yard_init) := ⟨rfl, rfl, rfl, by decide +kernel, rfl, by decide +kernel, by decide +kernel⟩
theorem sc_Yard_drum_at : FnScope ["self", "number"] ["self", "number"] (defScope s_Yard_drum_at) := ⟨rfl, rfl, rfl, by decide +kernel, rfl, by decide +kernel, by decide +kernel⟩
theorem sc_Yard_lent_drum : FnScope ["self", "number", "drum"] ["self", "number"] (defScope s_Yard_lent_drum) := ⟨rfl, rfl, rfl, by decide +kernel, rfl, by decide +kernel, by decide +kernel⟩
theorem sc_Yard_guest_at : FnScope ["self", "number"] ["self", "number"] (defScope s_Yard_guest_at) := ⟨rfl, rfl, rfl, by decide +kernel, rfl, by decide +kernel, by decide +kernel⟩
theorem sc_Yard_add_drum : FnScope ["self", "numbers", "core", "flange", "wide", "daily", "pledge"] ["self", "numbers"] (defScope s_Yard_add_drum) := ⟨rfl, rfl, rfl, by decide +kernel, rfl, by decide +kernel, by decide +kernel⟩
theorem sc_Yard_add_guest : FnScope ["self"] ["self"] (defScope s_Yard_add_guest) := ⟨rfl, rfl, rfl, by decide +kernel, rfl, by decide +kernel, by decide +kernel⟩
theorem sc_Yard_need_thick : FnScope ["self", "thick"] ["self", "thick"] (defScope s_Yard_need_thick) := ⟨rfl, rfl, rfl, by decide +kernel, rfl, by decide +kernel, by decide +kernel⟩
theorem sc_Yard_told_room : FnScope ["self", "number", "thick", "drum"] ["self", "number", "thick"] (defScope s_Yard_told_room) := ⟨rfl, rfl, rfl, by decide +kernel, rfl, by decide +kernel, by decide +kernel⟩
theorem sc_Yard_thickest : FnScope ["self", "number", "metres", "drum", "found"] ["self", "number", "metres"] (defScope s_Yard_thickest) := ⟨rfl, rfl, rfl, by decide +kernel, rfl, by decide +kernel, by decide +kernel⟩
theorem sc_Yard_free_drums : FnScope ["self", "number", "drum"] ["self"] (defScope s_Yard_free_drums) := ⟨rfl, rfl, rfl, by decide +kernel, rfl, by decide +kernel, by decide +kernel⟩
theorem sc_Yard_fit : FnScope ["self", "thick", "metres", "rows", "number", "row"] ["self", "thick", "metres"] (defScope s_Yard_fit) := ⟨rfl, rfl, rfl, by decide +kernel, rfl, by decide +kernel, by decide +kernel⟩
theorem sc_Yard_plan : FnScope ["self", "thick", "given", "found", "length"] ["self", "thick", "given"] (defScope s_Yard_plan) := ⟨rfl, rfl, rfl, by decide +kernel, rfl, by decide +kernel, by decide +kernel⟩
theorem sc_Yard_told_costs : FnScope ["self", "thick", "given", "plan"] ["self", "thick", "given"] (defScope s_Yard_told_costs) := ⟨rfl, rfl, rfl, by decide +kernel, rfl, by decide +kernel, by decide +kernel⟩
theorem sc_Yard_lend : FnScope ["self", "number", "guest", "days", "drum"] ["self", "number", "guest", "days"] (defScope s_Yard_lend) := ⟨rfl, rfl, rfl, by decide +kernel, rfl, by decide +kernel, by decide +kernel⟩
theorem sc_Yard_charge : FnScope ["self", "drum", "guest", "charged"] ["self", "drum"] (defScope s_Yard_charge) := ⟨rfl, rfl, rfl, by decide +kernel, rfl, by decide +kernel, by decide +kernel⟩
theorem sc_Yard_bring : FnScope ["self", "number", "drum", "charged"] ["self", "number"] (defScope s_Yard_bring) := ⟨rfl, rfl, rfl, by decide +kernel, rfl, by decide +kernel, by decide +kernel⟩
theorem sc_Yard_lose : FnScope ["self", "number", "drum"] ["self", "number"] (defScope s_Yard_lose) := ⟨rfl, rfl, rfl, by decide +kernel, rfl, by decide +kernel, by decide +kernel⟩
theorem sc_Yard_pay : FnScope ["self", "number", "amount", "guest"] ["self", "number", "amount"] (defScope s_Yard_pay) := ⟨rfl, rfl, rfl, by decide +kernel, rfl, by decide +kernel, by decide +kernel⟩
theorem sc_Yard_pass_days : FnScope ["self", "days"] ["self", "days"] (defScope s_Yard_pass_days) := ⟨rfl, rfl, rfl, by decide +kernel, rfl, by decide +kernel, by decide +kernel⟩
theorem sc_Yard_lent_to : FnScope ["self", "guest", "number", "drum"] ["self", "guest"] (defScope s_Yard_lent_to) := ⟨rfl, rfl, rfl, by decide +kernel, rfl, by decide +kernel, by decide +kernel⟩
theorem sc_Yard_late_drums : FnScope ["self", "number", "drum"] ["self"] (defScope s_Yard_late_drums) := ⟨rfl, rfl, rfl, by decide +kernel, rfl, by decide +kernel, by decide +kernel⟩
theorem sc_Yard_told_owed : FnScope ["self", "number", "guest", "pledged", "drum"] ["self", "number"] (defScope s_Yard_told_owed) := ⟨rfl, rfl, rfl, by decide +kernel, rfl, by decide +kernel, by decide +kernel⟩
theorem sc_Yard_told_would : FnScope ["self", "number", "guest", "charges", "drum"] ["self", "number"] (defScope s_Yard_told_would) := ⟨rfl, rfl, rfl, by decide +kernel, rfl, by decide +kernel, by decide +kernel⟩
theorem sc_Yard_told_lent : FnScope ["self", "number"] ["self", "number"] (defScope s_Yard_told_lent) := ⟨rfl, rfl, rfl, by decide +kernel, rfl, by decide +kernel, by decide +kernel⟩
theorem sc_Yard_told_eaten : FnScope ["self", "number", "drum"] ["self", "number"] (defScope s_Yard_told_eaten) := ⟨rfl, rfl, rfl, by decide +kernel, rfl, by decide +kernel, by decide +kernel⟩
theorem sc_Yard_told_drum : FnScope ["self", "number", "drum", "guest"] ["self", "number"] (defScope s_Yard_told_drum) := ⟨rfl, rfl, rfl, by decide +kernel, rfl, by decide +kernel, by decide +kernel⟩
theorem sc_Yard_told_sums : FnScope ["self", "owed", "paid", "guest"] ["self"] (defScope s_Yard_told_sums) := ⟨rfl, rfl, rfl, by decide +kernel, rfl, by decide +kernel, by decide +kernel⟩
theorem sc_Yard_respond_drums : FnScope ["self", "call", "numbers"] ["self", "call", "numbers"] (defScope s_Yard_respond_drums) := ⟨rfl, rfl, rfl, by decide +kernel, rfl, by decide +kernel, by decide +kernel⟩
theorem sc_Yard_respond_guests : FnScope ["self", "call", "numbers"] ["self", "call", "numbers"] (defScope s_Yard_respond_guests) := ⟨rfl, rfl, rfl, by decide +kernel, rfl, by decide +kernel, by decide +kernel⟩
theorem sc_Desk_init : FnScope ["self"] ["self"] (defScope s_Desk_init) := ⟨rfl, rfl, rfl, by decide +kernel, rfl, by decide +kernel, by decide +kernel⟩
theorem sc_Desk_respond : FnScope ["self", "call", "numbers"] ["self", "call", "numbers"] (defScope s_Desk_respond) := ⟨rfl, rfl, rfl, by decide +kernel, rfl, by decide +kernel, by decide +kernel⟩
theorem sc_answers : FnScope ["calls", "desk", "found", "place", "call", "first", "answer", "refusal"] ["calls"] (defScope s_answers) := ⟨rfl, rfl, rfl, by decide +kernel, rfl, by decide +kernel, by decide +kernel⟩
/-- a def as it stands behind the top: its text, how arguments meet its parameters -/
structure DefAt (K : PySem.W.Frag) (x qual : Str) (st : Stmt) (ps : List Str) (f : Addr) (fd : FuncData) : Prop where
  F : Fun K x qual st f fd
  b : Binds K fd ps []
/-- where the classes and the defs stand -/
structure Ad where
  CD : Addr
  CR : Addr
  CG : Addr
  CY : Addr
  CK : Addr
  Counts : Addr
  f_Refusal_init : Addr
  f_Drum_init : Addr
  fd_Drum_init : FuncData
  f_Drum_layers : Addr
  fd_Drum_layers : FuncData
  f_Drum_turns : Addr
  fd_Drum_turns : FuncData
  f_Drum_metres : Addr
  fd_Drum_metres : FuncData
  f_Drum_thickest : Addr
  fd_Drum_thickest : FuncData
  f_Drum_charged : Addr
  fd_Drum_charged : FuncData
  f_longer_plans : Addr
  fd_longer_plans : FuncData
  f_fits : Addr
  fd_fits : FuncData
  f_best_plan : Addr
  fd_best_plan : FuncData
  f_taken : Addr
  fd_taken : FuncData
  f_drum_count : Addr
  fd_drum_count : FuncData
  f_daily_cost : Addr
  fd_daily_cost : FuncData
  f_need : Addr
  fd_need : FuncData
  f_told_list : Addr
  fd_told_list : FuncData
  f_Guest_init : Addr
  fd_Guest_init : FuncData
  f_Yard_init : Addr
  fd_Yard_init : FuncData
  f_Yard_drum_at : Addr
  fd_Yard_drum_at : FuncData
  f_Yard_lent_drum : Addr
  fd_Yard_lent_drum : FuncData
  f_Yard_guest_at : Addr
  fd_Yard_guest_at : FuncData
  f_Yard_add_drum : Addr
  fd_Yard_add_drum : FuncData
  f_Yard_add_guest : Addr
  fd_Yard_add_guest : FuncData
  f_Yard_need_thick : Addr
  fd_Yard_need_thick : FuncData
  f_Yard_told_room : Addr
  fd_Yard_told_room : FuncData
  f_Yard_thickest : Addr
  fd_Yard_thickest : FuncData
  f_Yard_free_drums : Addr
  fd_Yard_free_drums : FuncData
  f_Yard_fit : Addr
  fd_Yard_fit : FuncData
  f_Yard_plan : Addr
  fd_Yard_plan : FuncData
  f_Yard_told_costs : Addr
  fd_Yard_told_costs : FuncData
  f_Yard_lend : Addr
  fd_Yard_lend : FuncData
  f_Yard_charge : Addr
  fd_Yard_charge : FuncData
  f_Yard_bring : Addr
  fd_Yard_bring : FuncData
  f_Yard_lose : Addr
  fd_Yard_lose : FuncData
  f_Yard_pay : Addr
  fd_Yard_pay : FuncData
  f_Yard_pass_days : Addr
  fd_Yard_pass_days : FuncData
  f_Yard_lent_to : Addr
  fd_Yard_lent_to : FuncData
  f_Yard_late_drums : Addr
  fd_Yard_late_drums : FuncData
  f_Yard_told_owed : Addr
  fd_Yard_told_owed : FuncData
  f_Yard_told_would : Addr
  fd_Yard_told_would : FuncData
  f_Yard_told_lent : Addr
  fd_Yard_told_lent : FuncData
  f_Yard_told_eaten : Addr
  fd_Yard_told_eaten : FuncData
  f_Yard_told_drum : Addr
  fd_Yard_told_drum : FuncData
  f_Yard_told_sums : Addr
  fd_Yard_told_sums : FuncData
  f_Yard_respond_drums : Addr
  fd_Yard_respond_drums : FuncData
  f_Yard_respond_guests : Addr
  fd_Yard_respond_guests : FuncData
  f_Desk_init : Addr
  fd_Desk_init : FuncData
  f_Desk_respond : Addr
  fd_Desk_respond : FuncData
  f_answers : Addr
  fd_answers : FuncData
/-- what the top has written -/
structure Txt (K : PySem.W.Frag) (mg : Str → Option Value) (a : Ad) : Prop where
  low : PySem.LowX.LowTxt K mg a.CR a.f_Refusal_init
  cl_Drum : Cls K a.CD
  mk_Drum : Mk K a.CD a.f_Drum_init
  gC_Drum : mg "Drum" = some (.ref a.CD)
  n_Drum_core : NoAttr K a.CD "core"
  n_Drum_flange : NoAttr K a.CD "flange"
  n_Drum_wide : NoAttr K a.CD "wide"
  n_Drum_daily : NoAttr K a.CD "daily"
  n_Drum_pledge : NoAttr K a.CD "pledge"
  n_Drum_guest : NoAttr K a.CD "guest"
  n_Drum_since : NoAttr K a.CD "since"
  n_Drum_till : NoAttr K a.CD "till"
  cl_Guest : Cls K a.CG
  mk_Guest : Mk K a.CG a.f_Guest_init
  gC_Guest : mg "Guest" = some (.ref a.CG)
  n_Guest_owed : NoAttr K a.CG "owed"
  n_Guest_paid : NoAttr K a.CG "paid"
  cl_Yard : Cls K a.CY
  mk_Yard : Mk K a.CY a.f_Yard_init
  gC_Yard : mg "Yard" = some (.ref a.CY)
  n_Yard_free_days : NoAttr K a.CY "free_days"
  n_Yard_drums : NoAttr K a.CY "drums"
  n_Yard_guests : NoAttr K a.CY "guests"
  n_Yard_today : NoAttr K a.CY "today"
  n_Yard_kept : NoAttr K a.CY "kept"
  cl_Desk : Cls K a.CK
  mk_Desk : Mk K a.CK a.f_Desk_init
  gC_Desk : mg "Desk" = some (.ref a.CK)
  n_Desk_yard : NoAttr K a.CK "yard"
  d_Drum_init : DefAt K "__init__" "Drum.__init__" s_Drum_init ["self", "core", "flange", "wide", "daily", "pledge"] a.f_Drum_init a.fd_Drum_init
  d_Drum_layers : DefAt K "layers" "Drum.layers" s_Drum_layers ["self", "thick"] a.f_Drum_layers a.fd_Drum_layers
  m_Drum_layers : Meth K a.CD "layers" a.f_Drum_layers
  d_Drum_turns : DefAt K "turns" "Drum.turns" s_Drum_turns ["self", "thick"] a.f_Drum_turns a.fd_Drum_turns
  m_Drum_turns : Meth K a.CD "turns" a.f_Drum_turns
  d_Drum_metres : DefAt K "metres" "Drum.metres" s_Drum_metres ["self", "thick"] a.f_Drum_metres a.fd_Drum_metres
  m_Drum_metres : Meth K a.CD "metres" a.f_Drum_metres
  d_Drum_thickest : DefAt K "thickest" "Drum.thickest" s_Drum_thickest ["self", "metres"] a.f_Drum_thickest a.fd_Drum_thickest
  m_Drum_thickest : Meth K a.CD "thickest" a.f_Drum_thickest
  d_Drum_charged : DefAt K "charged" "Drum.charged" s_Drum_charged ["self", "today", "free_days"] a.f_Drum_charged a.fd_Drum_charged
  m_Drum_charged : Meth K a.CD "charged" a.f_Drum_charged
  d_longer_plans : DefAt K "longer_plans" "longer_plans" s_longer_plans ["plans", "numbers"] a.f_longer_plans a.fd_longer_plans
  g_longer_plans : mg "longer_plans" = some (.ref a.f_longer_plans)
  d_fits : DefAt K "fits" "fits" s_fits ["plan", "lengths", "room"] a.f_fits a.fd_fits
  g_fits : mg "fits" = some (.ref a.f_fits)
  d_best_plan : DefAt K "best_plan" "best_plan" s_best_plan ["drums", "lengths", "thick"] a.f_best_plan a.fd_best_plan
  g_best_plan : mg "best_plan" = some (.ref a.f_best_plan)
  d_taken : DefAt K "taken" "taken" s_taken ["plan"] a.f_taken a.fd_taken
  g_taken : mg "taken" = some (.ref a.f_taken)
  d_drum_count : DefAt K "drum_count" "drum_count" s_drum_count ["plan"] a.f_drum_count a.fd_drum_count
  g_drum_count : mg "drum_count" = some (.ref a.f_drum_count)
  d_daily_cost : DefAt K "daily_cost" "daily_cost" s_daily_cost ["drums", "plan"] a.f_daily_cost a.fd_daily_cost
  g_daily_cost : mg "daily_cost" = some (.ref a.f_daily_cost)
  d_need : DefAt K "need" "need" s_need ["holds", "code"] a.f_need a.fd_need
  g_need : mg "need" = some (.ref a.f_need)
  d_told_list : DefAt K "told_list" "told_list" s_told_list ["numbers"] a.f_told_list a.fd_told_list
  g_told_list : mg "told_list" = some (.ref a.f_told_list)
  d_Guest_init : DefAt K "__init__" "Guest.__init__" s_Guest_init ["self"] a.f_Guest_init a.fd_Guest_init
  d_Yard_init : DefAt K "__init__" "Yard.__init__" s_Yard_init ["self", "free_days"] a.f_Yard_init a.fd_Yard_init
  d_Yard_drum_at : DefAt K "drum_at" "Yard.drum_at" s_Yard_drum_at ["self", "number"] a.f_Yard_drum_at a.fd_Yard_drum_at
  m_Yard_drum_at : Meth K a.CY "drum_at" a.f_Yard_drum_at
  d_Yard_lent_drum : DefAt K "lent_drum" "Yard.lent_drum" s_Yard_lent_drum ["self", "number"] a.f_Yard_lent_drum a.fd_Yard_lent_drum
  m_Yard_lent_drum : Meth K a.CY "lent_drum" a.f_Yard_lent_drum
  d_Yard_guest_at : DefAt K "guest_at" "Yard.guest_at" s_Yard_guest_at ["self", "number"] a.f_Yard_guest_at a.fd_Yard_guest_at
  m_Yard_guest_at : Meth K a.CY "guest_at" a.f_Yard_guest_at
  d_Yard_add_drum : DefAt K "add_drum" "Yard.add_drum" s_Yard_add_drum ["self", "numbers"] a.f_Yard_add_drum a.fd_Yard_add_drum
  m_Yard_add_drum : Meth K a.CY "add_drum" a.f_Yard_add_drum
  d_Yard_add_guest : DefAt K "add_guest" "Yard.add_guest" s_Yard_add_guest ["self"] a.f_Yard_add_guest a.fd_Yard_add_guest
  m_Yard_add_guest : Meth K a.CY "add_guest" a.f_Yard_add_guest
  d_Yard_need_thick : DefAt K "need_thick" "Yard.need_thick" s_Yard_need_thick ["self", "thick"] a.f_Yard_need_thick a.fd_Yard_need_thick
  m_Yard_need_thick : Meth K a.CY "need_thick" a.f_Yard_need_thick
  d_Yard_told_room : DefAt K "told_room" "Yard.told_room" s_Yard_told_room ["self", "number", "thick"] a.f_Yard_told_room a.fd_Yard_told_room
  m_Yard_told_room : Meth K a.CY "told_room" a.f_Yard_told_room
  d_Yard_thickest : DefAt K "thickest" "Yard.thickest" s_Yard_thickest ["self", "number", "metres"] a.f_Yard_thickest a.fd_Yard_thickest
  m_Yard_thickest : Meth K a.CY "thickest" a.f_Yard_thickest
  d_Yard_free_drums : DefAt K "free_drums" "Yard.free_drums" s_Yard_free_drums ["self"] a.f_Yard_free_drums a.fd_Yard_free_drums
  m_Yard_free_drums : Meth K a.CY "free_drums" a.f_Yard_free_drums
  d_Yard_fit : DefAt K "fit" "Yard.fit" s_Yard_fit ["self", "thick", "metres"] a.f_Yard_fit a.fd_Yard_fit
  m_Yard_fit : Meth K a.CY "fit" a.f_Yard_fit
  d_Yard_plan : DefAt K "plan" "Yard.plan" s_Yard_plan ["self", "thick", "given"] a.f_Yard_plan a.fd_Yard_plan
  m_Yard_plan : Meth K a.CY "plan" a.f_Yard_plan
  d_Yard_told_costs : DefAt K "told_costs" "Yard.told_costs" s_Yard_told_costs ["self", "thick", "given"] a.f_Yard_told_costs a.fd_Yard_told_costs
  m_Yard_told_costs : Meth K a.CY "told_costs" a.f_Yard_told_costs
  d_Yard_lend : DefAt K "lend" "Yard.lend" s_Yard_lend ["self", "number", "guest", "days"] a.f_Yard_lend a.fd_Yard_lend
  m_Yard_lend : Meth K a.CY "lend" a.f_Yard_lend
  d_Yard_charge : DefAt K "charge" "Yard.charge" s_Yard_charge ["self", "drum"] a.f_Yard_charge a.fd_Yard_charge
  m_Yard_charge : Meth K a.CY "charge" a.f_Yard_charge
  d_Yard_bring : DefAt K "bring" "Yard.bring" s_Yard_bring ["self", "number"] a.f_Yard_bring a.fd_Yard_bring
  m_Yard_bring : Meth K a.CY "bring" a.f_Yard_bring
  d_Yard_lose : DefAt K "lose" "Yard.lose" s_Yard_lose ["self", "number"] a.f_Yard_lose a.fd_Yard_lose
  m_Yard_lose : Meth K a.CY "lose" a.f_Yard_lose
  d_Yard_pay : DefAt K "pay" "Yard.pay" s_Yard_pay ["self", "number", "amount"] a.f_Yard_pay a.fd_Yard_pay
  m_Yard_pay : Meth K a.CY "pay" a.f_Yard_pay
  d_Yard_pass_days : DefAt K "pass_days" "Yard.pass_days" s_Yard_pass_days ["self", "days"] a.f_Yard_pass_days a.fd_Yard_pass_days
  m_Yard_pass_days : Meth K a.CY "pass_days" a.f_Yard_pass_days
  d_Yard_lent_to : DefAt K "lent_to" "Yard.lent_to" s_Yard_lent_to ["self", "guest"] a.f_Yard_lent_to a.fd_Yard_lent_to
  m_Yard_lent_to : Meth K a.CY "lent_to" a.f_Yard_lent_to
  d_Yard_late_drums : DefAt K "late_drums" "Yard.late_drums" s_Yard_late_drums ["self"] a.f_Yard_late_drums a.fd_Yard_late_drums
  m_Yard_late_drums : Meth K a.CY "late_drums" a.f_Yard_late_drums
  d_Yard_told_owed : DefAt K "told_owed" "Yard.told_owed" s_Yard_told_owed ["self", "number"] a.f_Yard_told_owed a.fd_Yard_told_owed
  m_Yard_told_owed : Meth K a.CY "told_owed" a.f_Yard_told_owed
  d_Yard_told_would : DefAt K "told_would" "Yard.told_would" s_Yard_told_would ["self", "number"] a.f_Yard_told_would a.fd_Yard_told_would
  m_Yard_told_would : Meth K a.CY "told_would" a.f_Yard_told_would
  d_Yard_told_lent : DefAt K "told_lent" "Yard.told_lent" s_Yard_told_lent ["self", "number"] a.f_Yard_told_lent a.fd_Yard_told_lent
  m_Yard_told_lent : Meth K a.CY "told_lent" a.f_Yard_told_lent
  d_Yard_told_eaten : DefAt K "told_eaten" "Yard.told_eaten" s_Yard_told_eaten ["self", "number"] a.f_Yard_told_eaten a.fd_Yard_told_eaten
  m_Yard_told_eaten : Meth K a.CY "told_eaten" a.f_Yard_told_eaten
  d_Yard_told_drum : DefAt K "told_drum" "Yard.told_drum" s_Yard_told_drum ["self", "number"] a.f_Yard_told_drum a.fd_Yard_told_drum
  m_Yard_told_drum : Meth K a.CY "told_drum" a.f_Yard_told_drum
  d_Yard_told_sums : DefAt K "told_sums" "Yard.told_sums" s_Yard_told_sums ["self"] a.f_Yard_told_sums a.fd_Yard_told_sums
  m_Yard_told_sums : Meth K a.CY "told_sums" a.f_Yard_told_sums
  d_Yard_respond_drums : DefAt K "respond_drums" "Yard.respond_drums" s_Yard_respond_drums ["self", "call", "numbers"] a.f_Yard_respond_drums a.fd_Yard_respond_drums
  m_Yard_respond_drums : Meth K a.CY "respond_drums" a.f_Yard_respond_drums
  d_Yard_respond_guests : DefAt K "respond_guests" "Yard.respond_guests" s_Yard_respond_guests ["self", "call", "numbers"] a.f_Yard_respond_guests a.fd_Yard_respond_guests
  m_Yard_respond_guests : Meth K a.CY "respond_guests" a.f_Yard_respond_guests
  d_Desk_init : DefAt K "__init__" "Desk.__init__" s_Desk_init ["self"] a.f_Desk_init a.fd_Desk_init
  d_Desk_respond : DefAt K "respond" "Desk.respond" s_Desk_respond ["self", "call", "numbers"] a.f_Desk_respond a.fd_Desk_respond
  m_Desk_respond : Meth K a.CK "respond" a.f_Desk_respond
  d_answers : DefAt K "answers" "answers" s_answers ["calls"] a.f_answers a.fd_answers
  g_answers : mg "answers" = some (.ref a.f_answers)
  c_MILLIMETRES : ∃ u, mg "MILLIMETRES" = some u ∧ RelV (.int (1000)) u
  c_MOST_THICK : ∃ u, mg "MOST_THICK" = some u ∧ RelV (.int (200)) u
  c_NOT_BEGUN : ∃ u, mg "NOT_BEGUN" = some u ∧ RelV (.int (-11)) u
  c_NOT_THERE : ∃ u, mg "NOT_THERE" = some u ∧ RelV (.int (-2)) u
  c_NOT_LENT : ∃ u, mg "NOT_LENT" = some u ∧ RelV (.int (-6)) u
  c_IS_LENT : ∃ u, mg "IS_LENT" = some u ∧ RelV (.int (-17)) u
  c_WRONG : ∃ u, mg "WRONG" = some u ∧ RelV (.int (-22)) u
  c_TOO_MANY : ∃ u, mg "TOO_MANY" = some u ∧ RelV (.int (-28)) u
  c_NONE_SUCH : ∃ u, mg "NONE_SUCH" = some u ∧ RelV (.int (-33)) u
  c_MOST_DRUMS : ∃ u, mg "MOST_DRUMS" = some u ∧ RelV (.int (6)) u
  c_MOST_GUESTS : ∃ u, mg "MOST_GUESTS" = some u ∧ RelV (.int (4)) u
  c_MOST_FREE_DAYS : ∃ u, mg "MOST_FREE_DAYS" = some u ∧ RelV (.int (100)) u
  c_LARGEST : ∃ u, mg "LARGEST" = some u ∧ RelV (.int (5000)) u
  c_MOST_DAILY : ∃ u, mg "MOST_DAILY" = some u ∧ RelV (.int (1000)) u
  c_MOST_PLEDGE : ∃ u, mg "MOST_PLEDGE" = some u ∧ RelV (.int (100000)) u
  c_LONGEST : ∃ u, mg "LONGEST" = some u ∧ RelV (.int (100000)) u
  c_MOST_DAYS : ∃ u, mg "MOST_DAYS" = some u ∧ RelV (.int (1000)) u
  c_LAST_DAY : ∃ u, mg "LAST_DAY" = some u ∧ RelV (.int (100000)) u
  c_COUNTS : ∃ u, mg "COUNTS" = some u ∧ RelV (.ref a.Counts) u
  t_COUNTS : ∀ H : Hp, SqT K H a.Counts (counts.map V.int)
  b_len : mg "len" = none
  b_max : mg "max" = none
  b_min : mg "min" = none
  b_sum : mg "sum" = none
  b_range : mg "range" = none
  b_enumerate : mg "enumerate" = none

end Ld
/-! Rules of one's own over the layer: a module's constant, min of a list of pairs, comprehensions by place. -/
namespace Ld
open PySem PySem.Spec PyProof.Rows L2
abbrev ni (n : Nat) : V := .int (n : Int)
def nl (l : List Nat) : List V := l.map fun (n : Nat) => V.int (n : Int)
theorem nl_length (l : List Nat) : (nl l).length = l.length := List.length_map _
theorem nl_get {l : List Nat} {i n : Nat} (h : l[i]? = some n) : (nl l)[i]? = some (.int (n : Int)) := by
  unfold nl
  rw [List.getElem?_map, h]
  rfl
theorem nl_at {l : List Nat} {i : Nat} {v : V} (h : (nl l)[i]? = some v) : ∃ n, l[i]? = some n ∧ v = .int (n : Int) := by
  unfold nl at h
  rw [List.getElem?_map] at h
  cases e : l[i]? with
  | none => rw [e] at h; cases h
  | some n => rw [e] at h; exact ⟨n, rfl, (Option.some.inj h).symm⟩
theorem pe_cst {X : Cx} {x : Str} {v : V} {pos : Pos} (h : ∃ u, X.mg x = some u ∧ RelV v u) (hg : Gl X x := by rfl) (hd : (x == ("__debug__" : Str)) = false := by decide) : PE X (.Name x pos) (tC v) := by
  obtain ⟨u, hm, r⟩ := h
  exact pe_glob hg hm r hd
theorem mg_none {K : PySem.W.Frag} {h : Heap} {mg : Str → Option Value} (X : K.In h) (G : h.Ns mainGlobals mg) {x : Str} (q : PySem.W.nsIn K mainGlobals x = some none) : mg x = none := PySem.W.mg_none_of X G q
theorem if_true_of {c : Bool} {A B : Prop} (hc : c = true) (h : A) : if c = true then A else B := by
  rw [if_pos hc]
  exact h
theorem if_false_of {c : Bool} {A B : Prop} (hc : c = false) (h : B) : if c = true then A else B := by
  rw [hc, if_neg Bool.false_ne_true]
  exact h
theorem int_ne {i j : Int} (h : i ≠ j) : decide (V.int i = V.int j) = false := decide_eq_false fun e => h (V.int.inj e)
theorem int_eq (i : Int) : decide (V.int i = V.int i) = true := decide_eq_true rfl

/-! ### rules within a comprehension's block: the written part named -/
section
variable {X : Cx}
theorem pe_fldK (K : PySem.W.Frag) {e : Expr} {ta : TE} {f : Str} {pos : Pos} (hK : X.K = K) (he : PE X e ta) (hb : attributeBase e f X.env (eval e X.env) = eval e X.env) : PE X (.Attribute e f pos) (tFld K ta f) := by
  subst hK
  exact pe_fld he hb
theorem ix_listK (K : PySem.W.Frag) (hK : X.K = K) : IxR X (rIxL K) := by
  subst hK
  exact ix_list
theorem ix_tupK (K : PySem.W.Frag) (hK : X.K = K) : IxR X (rIxT K) := by
  subst hK
  exact ix_tup
theorem sl_listK (K : PySem.W.Frag) (hK : X.K = K) : SlR X (rSlL K) := by
  subst hK
  exact sl_list
theorem op_notIn_seqK (K : PySem.W.Frag) (hK : X.K = K) : OpR X (compareOp .NotIn) (rIn K true) := by
  subst hK
  exact op_notIn_seq
end

/-! ### min of a list of pairs of ints -/
section
open PySem.W
theorem minOf_le (x : Int × Int) : ∀ (xs : List (Int × Int)) (y : Int × Int), y ∈ x :: xs → (DatumOrd.lt y (minOf x xs)) = false := by
  intro xs
  have tr : ∀ a b c : Int × Int, (DatumOrd.lt a b) = false → (DatumOrd.lt c b) = true → (DatumOrd.lt a c) = false := by
    intro a b c h1 h2
    have h1 : (if a.1 = b.1 then decide (a.2 < b.2) else decide (a.1 < b.1)) = false := h1
    have h2 : (if c.1 = b.1 then decide (c.2 < b.2) else decide (c.1 < b.1)) = true := h2
    show (if a.1 = c.1 then decide (a.2 < c.2) else decide (a.1 < c.1)) = false
    split at h1 <;> split at h2 <;> split <;> simp only [decide_eq_false_iff_not, decide_eq_true_eq] at * <;> omega
  have key : ∀ (xs : List (Int × Int)) (x : Int × Int), (DatumOrd.lt x (minOf x xs)) = false ∧ ∀ y ∈ xs, (DatumOrd.lt y (minOf x xs)) = false := by
    intro xs
    induction xs with
    | nil =>
      intro x
      refine ⟨?_, fun y h => by cases h⟩
      show (if x.1 = x.1 then decide (x.2 < x.2) else decide (x.1 < x.1)) = false
      rw [if_pos rfl]
      exact decide_eq_false (by omega)
    | cons z zs ih =>
      intro x
      have e : minOf x (z :: zs) = minOf (if DatumOrd.lt z x = true then z else x) zs := rfl
      rw [e]
      by_cases c : (DatumOrd.lt z x) = true
      · rw [if_pos c]
        obtain ⟨h1, h2⟩ := ih z
        have h3 : (DatumOrd.lt x (minOf z zs)) = false := by
          have h1' : (if z.1 = (minOf z zs).1 then decide (z.2 < (minOf z zs).2) else decide (z.1 < (minOf z zs).1)) = false := h1
          have c' : (if z.1 = x.1 then decide (z.2 < x.2) else decide (z.1 < x.1)) = true := c
          show (if x.1 = (minOf z zs).1 then decide (x.2 < (minOf z zs).2) else decide (x.1 < (minOf z zs).1)) = false
          split at h1' <;> split at c' <;> split <;> simp only [decide_eq_false_iff_not, decide_eq_true_eq] at * <;> omega
        refine ⟨h3, fun y hy => ?_⟩
        rcases List.mem_cons.mp hy with rfl | hy
        · exact h1
        · exact h2 y hy
      · have c : (DatumOrd.lt z x) = false := by simpa using c
        rw [if_neg (by rw [c]; decide)]
        obtain ⟨h1, h2⟩ := ih x
        refine ⟨h1, fun y hy => ?_⟩
        rcases List.mem_cons.mp hy with rfl | hy
        · have h1' : (if x.1 = (minOf x zs).1 then decide (x.2 < (minOf x zs).2) else decide (x.1 < (minOf x zs).1)) = false := h1
          have c' : (if y.1 = x.1 then decide (y.2 < x.2) else decide (y.1 < x.1)) = false := c
          show (if y.1 = (minOf x zs).1 then decide (y.2 < (minOf x zs).2) else decide (y.1 < (minOf x zs).1)) = false
          split at h1' <;> split at c' <;> split <;> simp only [decide_eq_false_iff_not, decide_eq_true_eq] at * <;> omega
        · exact h2 y hy
  intro y hy
  rcases List.mem_cons.mp hy with rfl | hy
  · exact (key xs _).1
  · exact (key xs x).2 y hy
end
/-- min(l), l a list of pairs of ints (each a tuple): one that none is below -/
def rMinT (K : PySem.W.Frag) : List V → Hp → VK → Prop := fun vs H Q => ∃ (l : Addr) (ts : List Addr) (ks : List (Int × Int)), vs = [V.ref l] ∧ SqL K H l (ts.map V.ref) ∧ ts.length = ks.length ∧
  (∀ (i : Nat) (t : Addr) (k : Int × Int), ts[i]? = some t → ks[i]? = some k → H t = some (.tup [.int k.1, .int k.2])) ∧ ks ≠ [] ∧
  ∀ (i : Nat) (t : Addr) (k : Int × Int), ts[i]? = some t → ks[i]? = some k → (∀ k' ∈ ks, k.1 < k'.1 ∨ k.1 = k'.1 ∧ k.2 ≤ k'.2) → Q (.ref t) H
theorem dpAll_pairs {K : PySem.W.Frag} {H : Hp} : ∀ (ts : List Addr) (ks : List (Int × Int)), ts.length = ks.length → (∀ (i : Nat) (t : Addr) (k : Int × Int), ts[i]? = some t → ks[i]? = some k → H t = some (.tup [.int k.1, .int k.2])) →
    DpAll K H (ts.map V.ref) (ks.map PySem.W.Datum.toD)
  | [], [], _, _ => .nil
  | [], _ :: _, h, _ => by cases h
  | _ :: _, [], h, _ => by cases h
  | t :: ts, k :: ks, h, q => by
    rw [List.map_cons, List.map_cons]
    refine .cons ?_ (dpAll_pairs ts ks (Nat.succ.inj h) fun i t' k' a b => q (i + 1) t' k' a b)
    show Dp K H (.ref t) (.tuple [.int k.1, .int k.2])
    exact .tup (SqT.of (q 0 t k rfl rfl)) (.cons (.int _) (.cons (.int _) .nil))
theorem cr_minT {X : Cx} (hc : X.calm = true) (hu : X.A.units + 64 < cLine) : CallR X (.builtin "min") (rMinT X.K) := by
  intro pins s σ H vs us Q I r h
  obtain ⟨l, ts, ks, rfl, hs, hlen, hk, hne, q⟩ := h
  obtain ⟨its, rv, hl, _⟩ := I.list hs
  rw [Vals.ref1 r]
  cases ks with
  | nil => exact absurd rfl hne
  | cons k0 kr =>
    obtain ⟨as, ra⟩ := Dp.readsAll I _ _ its (dpAll_pairs (K := X.K) ts (k0 :: kr) hlen hk) rv
    refine PySem.W.min_list_datum (x := k0) (xs := kr) (I.ok.hd hc) hl.isList ⟨as, ra⟩ ?_ fun i v h' tk hi hv hkeep => ?_
    · have e : PySem.W.Datum.depth (Int × Int) = 1 := rfl
      rw [e]
      omega
    · have hi' : its[i]? = some v := by simpa using hi
      have hlt : i < its.length := by
        rcases Nat.lt_or_ge i its.length with z | z
        · exact z
        · rw [List.getElem?_eq_none z] at hi'; cases hi'
      have hl2 : its.length = ts.length := by rw [← rv.length, List.length_map]
      obtain ⟨t, ht⟩ : ∃ t, ts[i]? = some t := ⟨ts[i]'(by omega), List.getElem?_eq_getElem (by omega)⟩
      obtain ⟨k, hk1⟩ : ∃ k, (k0 :: kr)[i]? = some k := ⟨(k0 :: kr)[i]'(by omega), List.getElem?_eq_getElem (by omega)⟩
      have hrel : RelV (.ref t) v := by
        have e1 : (ts.map V.ref)[i]? = some (.ref t) := by rw [List.getElem?_map, ht]; rfl
        obtain ⟨u, e2, e3⟩ := Vals.get rv e1
        rw [hi'] at e2
        cases e2
        exact e3
      obtain rfl : v = Value.ref t := hrel
      have hd : Dp X.K H (.ref t) (.tuple [.int k.1, .int k.2]) := .tup (SqT.of (hk i t k ht hk1)) (.cons (.int _) (.cons (.int _) .nil))
      obtain ⟨bs, rb⟩ := Dp.reads I _ _ _ hd (show RelV (.ref t) (.ref t) from rfl)
      obtain ⟨cs, rc⟩ := hv
      obtain ⟨e1, _⟩ := PyProof.Rows.reads_det (h := s.heap) (h' := h') (fun b o e _ => hkeep b o e) rb rc
      have e2 : PySem.W.minOf k0 kr = k := by
        have e1 : PyData.tuple [.int (PySem.W.minOf k0 kr).1, .int (PySem.W.minOf k0 kr).2] = PyData.tuple [.int k.1, .int k.2] := e1
        injection e1 with e1
        injection e1 with a b
        injection b with b _
        injection a with a
        injection b with b
        exact Prod.ext a b
      refine ⟨.ref t, H, I.kept hkeep, rfl, q i t k ht hk1 fun k' hk' => ?_⟩
      have z := minOf_le k0 kr k' hk'
      rw [e2] at z
      have z : (if k'.1 = k.1 then decide (k'.2 < k.2) else decide (k'.1 < k.1)) = false := z
      split at z <;> simp only [decide_eq_false_iff_not] at z <;> omega
end Ld
/-! How the yard lies in the heap; what each def promises. -/
namespace Ld
open PySem PySem.Spec PyProof.Rows L2

/-! ### comprehensions -/
theorem paired_snoc {α β : Type} {F : α → β → Prop} {a : α} {b : β} (h : F a b) : ∀ {l : List α} {m : List β}, Paired F l m → Paired F (l ++ [a]) (m ++ [b])
  | _, _, .nil => .cons h .nil
  | _, _, .cons r t => .cons r (paired_snoc h t)
theorem paired_map {α β : Type} {f : α → β} : ∀ {l : List α} {m : List β}, Paired (fun a b => b = f a) l m → m = l.map f
  | _, _, .nil => rfl
  | _, _, .cons r t => by rw [List.map_cons, r, paired_map t]
theorem filter_range_succ (P : Nat → Bool) (i : Nat) : (List.range (i + 1)).filter P = (List.range i).filter P ++ (if P i = true then [i] else []) := by
  rw [List.range_succ, List.filter_append]
  congr 1
  rw [List.filter_cons, List.filter_nil]
theorem filter_range_le (P : Nat → Bool) (i : Nat) : ((List.range i).filter P).length ≤ i := by
  have := List.length_filter_le P (List.range i)
  rw [List.length_range] at this
  exact this
/-- a comprehension over any walk, its items told by place: El i y H tells of the item y that place i gives -/
theorem lc_gen {J : It} {n : Nat} {G : Hp → Prop} {Y : Nat → Hp → V → Hp → Prop} (w : Walk J n G Y) {g : TG} {tt : TT} {te : TE} {vs : List Nat} {σ : L2.St} {H1 : Hp} {D : Addr} {Qd : Hp → Prop}
    (Z : Nat → V → Hp → Prop) (El : Nat → V → Hp → Prop) (P : Nat → Bool) (hD : H1 D = none) (hn : n ≤ 1000000)
    (hG : ∀ H, Same H1 H → G H) (hY : ∀ i H x H', i < n → Same H1 H → Y i H x H' → Same H H' ∧ Z i x H')
    (hst : ∀ i y H H', (∀ b o, b ≠ D → H b = some o → H' b = some o) → El i y H → El i y H')
    (hs : ∀ i x H (N1 : Hp → Prop) (N2 : V → Hp → Prop), i < n → Same H1 H → (∃ acc, H D = some (.lst acc)) → Z i x H →
      (∀ H3, Same H H3 → P i = false → N1 H3) → (∀ H3 y, Same H H3 → P i = true → El i y H3 → N2 y H3) →
      g x (wipe σ vs) H (fun σ2 H2 => wipe σ2 vs = wipe σ vs ∧ tt σ2 H2 fun b H3 => if b = true then te σ2 H3 N2 else N1 H3))
    (hd : ∀ H acc, Same H1 H → H D = some (.lst acc) → Paired (fun i y => El i y H) ((List.range n).filter P) acc → Qd H) :
    ∃ W : Nat → Nat → Hp → Prop, (∃ m, W 0 m (upd H1 D (.lst []))) ∧ ∀ i m H, W i m H →
      (J.stop i H ∧ Qd H) ∨ (J.go i H ∧ ∃ Nx : Hp → Prop, (∀ H', Nx H' → ∃ m', m' < m ∧ W (i + 1) m' H') ∧ ∀ x H', J.yld i H x H' → g x (wipe σ vs) H' fun σ2 H2 => wipe σ2 vs = wipe σ vs ∧ tt σ2 H2 fun b H3 =>
        if b = true then te σ2 H3 fun y H4 => ∃ acc, H4 D = some (.lst acc) ∧ acc.length < sizeLine ∧ Nx (upd H4 D (.lst (acc ++ [y]))) else Nx H3) := by
  refine lc_it w (fun i H => Same H1 H ∧ ∃ acc, H D = some (.lst acc) ∧ Paired (fun i y => El i y H) ((List.range i).filter P) acc) ?_ (fun i H _ h => hG H h.1) ?_ ?_
  · refine ⟨fun b o e => ?_, [], upd_same, .nil⟩
    rw [upd_ne (ne_of_none e hD)]
    exact e
  · rintro i x H H' hi ⟨sm, acc, hacc, hp⟩ y
    obtain ⟨s2, z⟩ := hY i H x H' hi sm y
    have sm' : Same H1 H' := sm.trans s2
    have hacc' : H' D = some (.lst acc) := s2 _ _ hacc
    refine hs i x H' _ _ hi sm' ⟨acc, hacc'⟩ z (fun H3 s3 c => ?_) (fun H3 y s3 c el => ?_)
    · refine ⟨sm'.trans s3, acc, s3 _ _ hacc', ?_⟩
      rw [filter_range_succ, c]
      have e : (List.range i).filter P ++ (if false = true then [i] else []) = (List.range i).filter P := by simp
      rw [e]
      exact L2.Paired.mapP hp fun a b q => hst a b H H3 (fun c o _ e => (s2.trans s3) c o e) q
    · have hlen : acc.length = ((List.range i).filter P).length := by
        have q : ∀ {l : List Nat} {m : List V}, Paired (fun i y => El i y H) l m → m.length = l.length := by
          intro l m r
          induction r with
          | nil => rfl
          | cons _ _ ih => rw [List.length_cons, List.length_cons, ih]
        exact q hp
      refine ⟨acc, s3 _ _ hacc', ?_, fun b o e => ?_, acc ++ [y], upd_same, ?_⟩
      · have := filter_range_le P i
        rw [hlen, sizeLine_eq]
        omega
      · have hb : b ≠ D := ne_of_none e hD
        rw [upd_ne hb]
        exact (sm'.trans s3) b o e
      · rw [filter_range_succ, c]
        have e : (List.range i).filter P ++ (if true = true then [i] else []) = (List.range i).filter P ++ [i] := by simp
        rw [e]
        refine paired_snoc ?_ (L2.Paired.mapP hp fun a b q => ?_)
        · exact hst i y H3 _ (fun b o hb e => by rw [upd_ne hb]; exact e) el
        · exact hst a b H _ (fun b o hb e => by rw [upd_ne hb]; exact (s2.trans s3) b o e) q
  · rintro H ⟨sm, acc, hacc, hp⟩
    exact hd H acc sm hacc hp
/-- the same, the item a function of the place -/
theorem lc_fun {J : It} {n : Nat} {G : Hp → Prop} {Y : Nat → Hp → V → Hp → Prop} (w : Walk J n G Y) {g : TG} {tt : TT} {te : TE} {vs : List Nat} {σ : L2.St} {H1 : Hp} {D : Addr} {Qd : Hp → Prop}
    (Z : Nat → V → Hp → Prop) (P : Nat → Bool) (f : Nat → V) (hD : H1 D = none) (hn : n ≤ 1000000)
    (hG : ∀ H, Same H1 H → G H) (hY : ∀ i H x H', i < n → Same H1 H → Y i H x H' → Same H H' ∧ Z i x H')
    (hs : ∀ i x H (N1 : Hp → Prop) (N2 : V → Hp → Prop), i < n → Same H1 H → Z i x H →
      (∀ H3, Same H H3 → P i = false → N1 H3) → (∀ H3, Same H H3 → P i = true → N2 (f i) H3) →
      g x (wipe σ vs) H (fun σ2 H2 => wipe σ2 vs = wipe σ vs ∧ tt σ2 H2 fun b H3 => if b = true then te σ2 H3 N2 else N1 H3))
    (hd : ∀ H, Same H1 H → H D = some (.lst (((List.range n).filter P).map f)) → Qd H) :
    ∃ W : Nat → Nat → Hp → Prop, (∃ m, W 0 m (upd H1 D (.lst []))) ∧ ∀ i m H, W i m H →
      (J.stop i H ∧ Qd H) ∨ (J.go i H ∧ ∃ Nx : Hp → Prop, (∀ H', Nx H' → ∃ m', m' < m ∧ W (i + 1) m' H') ∧ ∀ x H', J.yld i H x H' → g x (wipe σ vs) H' fun σ2 H2 => wipe σ2 vs = wipe σ vs ∧ tt σ2 H2 fun b H3 =>
        if b = true then te σ2 H3 fun y H4 => ∃ acc, H4 D = some (.lst acc) ∧ acc.length < sizeLine ∧ Nx (upd H4 D (.lst (acc ++ [y]))) else Nx H3) :=
  lc_gen w Z (fun i y _ => y = f i) P hD hn hG hY (fun _ _ _ _ _ q => q) (fun i x H N1 N2 hi sm _ z k1 k2 => hs i x H N1 N2 hi sm z k1 fun H3 s3 c => k2 H3 _ s3 c rfl)
    (fun H acc sm hacc hp => hd H sm (by rw [← paired_map hp]; exact hacc))
theorem y_at {xs : List V} {i : Nat} {H H' : Hp} {x : V} (y : YAt xs i H x H') : Same H H' ∧ xs[i]? = some x := by
  obtain ⟨rfl, e⟩ := y
  exact ⟨Same.refl _, e⟩
theorem y_pair {f g : Nat → Option V} {i : Nat} {H H' : Hp} {v : V} (y : YPair f g i H v H') : Same H H' ∧ ∃ T x z, v = .ref T ∧ H' T = some (.tup [x, z]) ∧ f i = some x ∧ g i = some z := by
  obtain ⟨T, x, z, rfl, h1, rfl, h2, h3⟩ := y
  exact ⟨fun b o e => by rw [upd_ne (ne_of_none e h1)]; exact e, T, x, z, rfl, upd_same, h2, h3⟩
theorem same_upd {H : Hp} {p : Addr} {o : HO} (h : H p = none) : Same H (upd H p o) := fun b u e => by
  rw [upd_ne (ne_of_none e h)]
  exact e

/-! ### attributes -/
theorem lk_here {k : Str} {v : V} {r : List (Str × V)} : List.lookup k ((k, v) :: r) = some v := by
  have e : (k == k) = true := beq_self_eq_true k
  simp only [List.lookup, e]
theorem lk_past {k g : Str} {v : V} {r : List (Str × V)} (h : (k == g) = false) : List.lookup k ((g, v) :: r) = List.lookup k r := by
  simp only [List.lookup, h]
theorem put_here {f : Str} {v x : V} {r : List (Str × V)} : putF f v ((f, x) :: r) = (f, v) :: r := if_pos rfl
theorem put_past {f g : Str} {v x : V} {r : List (Str × V)} (h : ¬ g = f) : putF f v ((g, x) :: r) = (g, x) :: putF f v r := if_neg h
theorem put_end {f : Str} {v : V} : putF f v [] = [(f, v)] := rfl

/-- who has it, as the program keeps it -/
def guestV (x : Kp244.Drum) : V := match x.lent with
  | none => .non
  | some z => .int (z.1 : Int)
def dF (x : Kp244.Drum) (g : V) (s t : Nat) : List (Str × V) :=
  [("core", .int x.core), ("flange", .int x.flange), ("wide", .int x.wide), ("daily", .int x.daily), ("pledge", .int x.pledge), ("guest", g), ("since", .int s), ("till", .int t)]
def gF (g : Kp244.Guest) : List (Str × V) := [("owed", .int g.owed), ("paid", .int g.paid)]
def yF (m : Kp244.Yard) (dl gl : Addr) : List (Str × V) := [("free_days", .int m.free), ("drums", .ref dl), ("guests", .ref gl), ("today", .int m.day), ("kept", .int m.kept)]
section
variable (x : Kp244.Drum) (g : V) (s t : Nat)
theorem dF_core : (dF x g s t).lookup ("core" : Str) = some (.int x.core) := by
  repeat (first | exact lk_here | refine (lk_past (by decide +kernel)).trans ?_)
theorem dF_flange : (dF x g s t).lookup ("flange" : Str) = some (.int x.flange) := by
  repeat (first | exact lk_here | refine (lk_past (by decide +kernel)).trans ?_)
theorem dF_wide : (dF x g s t).lookup ("wide" : Str) = some (.int x.wide) := by
  repeat (first | exact lk_here | refine (lk_past (by decide +kernel)).trans ?_)
theorem dF_daily : (dF x g s t).lookup ("daily" : Str) = some (.int x.daily) := by
  repeat (first | exact lk_here | refine (lk_past (by decide +kernel)).trans ?_)
theorem dF_pledge : (dF x g s t).lookup ("pledge" : Str) = some (.int x.pledge) := by
  repeat (first | exact lk_here | refine (lk_past (by decide +kernel)).trans ?_)
theorem dF_guest : (dF x g s t).lookup ("guest" : Str) = some g := by
  repeat (first | exact lk_here | refine (lk_past (by decide +kernel)).trans ?_)
theorem dF_since : (dF x g s t).lookup ("since" : Str) = some (.int s) := by
  repeat (first | exact lk_here | refine (lk_past (by decide +kernel)).trans ?_)
theorem dF_till : (dF x g s t).lookup ("till" : Str) = some (.int t) := by
  repeat (first | exact lk_here | refine (lk_past (by decide +kernel)).trans ?_)
theorem dF_no {m : Str} (h : (["core", "flange", "wide", "daily", "pledge", "guest", "since", "till"] : List Str).all (fun f => !(m == f)) = true) : (dF x g s t).lookup m = none := by
  simp only [List.all_cons, List.all_nil, Bool.and_true, Bool.and_eq_true, Bool.not_eq_true'] at h
  obtain ⟨h1, h2, h3, h4, h5, h6, h7, h8⟩ := h
  exact (lk_past h1).trans ((lk_past h2).trans ((lk_past h3).trans ((lk_past h4).trans ((lk_past h5).trans ((lk_past h6).trans ((lk_past h7).trans ((lk_past h8).trans rfl)))))))
theorem dF_putG (v : V) : putF "guest" v (dF x g s t) = dF x v s t := by
  unfold dF
  repeat (first | exact put_here | refine (put_past (by decide +kernel)).trans (congrArg _ ?_))
theorem dF_putS (n : Nat) : putF "since" (.int (n : Int)) (dF x g s t) = dF x g n t := by
  unfold dF
  repeat (first | exact put_here | refine (put_past (by decide +kernel)).trans (congrArg _ ?_))
theorem dF_putT (n : Nat) : putF "till" (.int (n : Int)) (dF x g s t) = dF x g s n := by
  unfold dF
  repeat (first | exact put_here | refine (put_past (by decide +kernel)).trans (congrArg _ ?_))
end
section
variable (g : Kp244.Guest)
theorem gF_owed : (gF g).lookup ("owed" : Str) = some (.int g.owed) := by
  repeat (first | exact lk_here | refine (lk_past (by decide +kernel)).trans ?_)
theorem gF_paid : (gF g).lookup ("paid" : Str) = some (.int g.paid) := by
  repeat (first | exact lk_here | refine (lk_past (by decide +kernel)).trans ?_)
theorem gF_putO (n : Nat) : putF "owed" (.int (n : Int)) (gF g) = gF { g with owed := n } := put_here
theorem gF_putP (n : Nat) : putF "paid" (.int (n : Int)) (gF g) = gF { g with paid := n } := (put_past (by decide +kernel)).trans (congrArg _ put_here)
end
section
variable (m : Kp244.Yard) (dl gl : Addr)
theorem yF_free : (yF m dl gl).lookup ("free_days" : Str) = some (.int m.free) := by
  repeat (first | exact lk_here | refine (lk_past (by decide +kernel)).trans ?_)
theorem yF_drums : (yF m dl gl).lookup ("drums" : Str) = some (.ref dl) := by
  repeat (first | exact lk_here | refine (lk_past (by decide +kernel)).trans ?_)
theorem yF_guests : (yF m dl gl).lookup ("guests" : Str) = some (.ref gl) := by
  repeat (first | exact lk_here | refine (lk_past (by decide +kernel)).trans ?_)
theorem yF_today : (yF m dl gl).lookup ("today" : Str) = some (.int m.day) := by
  repeat (first | exact lk_here | refine (lk_past (by decide +kernel)).trans ?_)
theorem yF_kept : (yF m dl gl).lookup ("kept" : Str) = some (.int m.kept) := by
  repeat (first | exact lk_here | refine (lk_past (by decide +kernel)).trans ?_)
theorem yF_no {k : Str} (h : (["free_days", "drums", "guests", "today", "kept"] : List Str).all (fun f => !(k == f)) = true) : (yF m dl gl).lookup k = none := by
  simp only [List.all_cons, List.all_nil, Bool.and_true, Bool.and_eq_true, Bool.not_eq_true'] at h
  obtain ⟨h1, h2, h3, h4, h5⟩ := h
  exact (lk_past h1).trans ((lk_past h2).trans ((lk_past h3).trans ((lk_past h4).trans ((lk_past h5).trans rfl))))
theorem yF_putK (n : Nat) : putF "kept" (.int (n : Int)) (yF m dl gl) = yF { m with kept := n } dl gl := by
  unfold yF
  repeat (first | exact put_here | refine (put_past (by decide +kernel)).trans (congrArg _ ?_))
theorem yF_putD (n : Nat) : putF "today" (.int (n : Int)) (yF m dl gl) = yF { m with day := n } dl gl := by
  unfold yF
  repeat (first | exact put_here | refine (put_past (by decide +kernel)).trans (congrArg _ ?_))
end

/-! ### the yard in the heap -/
def DrumAt (C : Addr) (H : Hp) (p : Addr) (x : Kp244.Drum) : Prop := ∃ dx s t, H p = some (.ins C dx (dF x (guestV x) s t)) ∧ ∀ z, x.lent = some z → s = z.2.1 ∧ t = z.2.2
def GuestAt (C : Addr) (H : Hp) (p : Addr) (g : Kp244.Guest) : Prop := ∃ dx, H p = some (.ins C dx (gF g))
def DrumsAt (C : Addr) (H : Hp) (ds : List Addr) (xs : List Kp244.Drum) : Prop := ds.length = xs.length ∧ ∀ (i : Nat) (p : Addr) (x : Kp244.Drum), ds[i]? = some p → xs[i]? = some x → DrumAt C H p x
def GuestsAt (C : Addr) (H : Hp) (ds : List Addr) (xs : List Kp244.Guest) : Prop := ds.length = xs.length ∧ ∀ (i : Nat) (p : Addr) (x : Kp244.Guest), ds[i]? = some p → xs[i]? = some x → GuestAt C H p x
/-- where the yard's things stand: the yard, its lists, the drums, the guests -/
structure YS where
  y : Addr
  dl : Addr
  gl : Addr
  ds : List Addr
  gs : List Addr
structure YardAt (a : Ad) (H : Hp) (s : YS) (m : Kp244.Yard) : Prop where
  yard : ∃ dx, H s.y = some (.ins a.CY dx (yF m s.dl s.gl))
  dl : H s.dl = some (.lst (s.ds.map V.ref))
  gl : H s.gl = some (.lst (s.gs.map V.ref))
  drums : DrumsAt a.CD H s.ds m.drums
  guests : GuestsAt a.CG H s.gs m.guests
  ndD : s.ds.Nodup
  ndG : s.gs.Nodup
  ne : s.dl ≠ s.gl
def Own (s : YS) (b : Addr) : Prop := b = s.y ∨ b = s.dl ∨ b = s.gl ∨ b ∈ s.ds ∨ b ∈ s.gs
theorem DrumAt.same {C : Addr} {H H' : Hp} {p : Addr} {x : Kp244.Drum} (e : Same H H') (h : DrumAt C H p x) : DrumAt C H' p x := by
  obtain ⟨dx, s, t, h1, h2⟩ := h
  exact ⟨dx, s, t, e _ _ h1, h2⟩
theorem DrumsAt.same {C : Addr} {H H' : Hp} {ds : List Addr} {xs : List Kp244.Drum} (e : Same H H') (h : DrumsAt C H ds xs) : DrumsAt C H' ds xs := ⟨h.1, fun i p x a b => (h.2 i p x a b).same e⟩
theorem GuestsAt.same {C : Addr} {H H' : Hp} {ds : List Addr} {xs : List Kp244.Guest} (e : Same H H') (h : GuestsAt C H ds xs) : GuestsAt C H' ds xs := ⟨h.1, fun i p x a b => by
  obtain ⟨dx, q⟩ := h.2 i p x a b
  exact ⟨dx, e _ _ q⟩⟩
theorem YardAt.same {a : Ad} {H H' : Hp} {s : YS} {m : Kp244.Yard} (e : Same H H') (h : YardAt a H s m) : YardAt a H' s m := by
  obtain ⟨⟨dx, hy⟩, h2, h3, h4, h5, h6, h7, h8⟩ := h
  exact ⟨⟨dx, e _ _ hy⟩, e _ _ h2, e _ _ h3, h4.same e, h5.same e, h6, h7, h8⟩
theorem DrumsAt.get {C : Addr} {H : Hp} {ds : List Addr} {m : Kp244.Yard} (h : DrumsAt C H ds m.drums) {i : Nat} (hi : i < m.drums.length) : ∃ p, ds[i]? = some p ∧ DrumAt C H p (Kp244.drumAt m i) := by
  have hl : i < ds.length := by rw [h.1]; exact hi
  refine ⟨ds[i], List.getElem?_eq_getElem hl, h.2 i _ _ (List.getElem?_eq_getElem hl) ?_⟩
  unfold Kp244.drumAt
  rw [List.getD_eq_getElem?_getD, List.getElem?_eq_getElem hi]
  rfl
theorem GuestsAt.get {C : Addr} {H : Hp} {ds : List Addr} {m : Kp244.Yard} (h : GuestsAt C H ds m.guests) {i : Nat} (hi : i < m.guests.length) : ∃ p, ds[i]? = some p ∧ GuestAt C H p (Kp244.guestAt m i) := by
  have hl : i < ds.length := by rw [h.1]; exact hi
  refine ⟨ds[i], List.getElem?_eq_getElem hl, h.2 i _ _ (List.getElem?_eq_getElem hl) ?_⟩
  unfold Kp244.guestAt
  rw [List.getD_eq_getElem?_getD, List.getElem?_eq_getElem hi]
  rfl
theorem guestV_free (x : Kp244.Drum) : decide (guestV x = .non) = Kp244.isFree x := by
  unfold guestV Kp244.isFree
  cases x.lent with
  | none => rfl
  | some z => exact decide_eq_false fun e => by cases e
theorem refs_at {as : List Addr} {i : Nat} {v : V} (h : (as.map V.ref)[i]? = some v) : ∃ q, as[i]? = some q ∧ v = .ref q := by
  rw [List.getElem?_map] at h
  cases e : as[i]? with
  | none => rw [e] at h; cases h
  | some q => rw [e] at h; exact ⟨q, rfl, (Option.some.inj h).symm⟩
end Ld
/-! The drums. -/
namespace Ld
open PySem PySem.Spec PyProof.Rows L2
def sp_Drum_init (a : Ad) : Sp := fun vs H Q _ => ∃ (p dx : Addr) (c f w d pl : Nat), vs = [.ref p, ni c, ni f, ni w, ni d, ni pl] ∧ H p = some (.ins a.CD dx []) ∧
  ∀ H', DrumAt a.CD H' p ⟨c, f, w, d, pl, none⟩ → (∀ b o, H b = some o → b ≠ p → H' b = some o) → Q .non H'
def sp_Drum_layers (a : Ad) : Sp := fun vs H Q _ => ∃ (p : Addr) (x : Kp244.Drum) (t : Nat), vs = [.ref p, ni t] ∧ DrumAt a.CD H p x ∧ GoodD x ∧ 1 ≤ t ∧ t ≤ 200 ∧ Q (ni (Kp244.layers x t)) H
def sp_Drum_turns (a : Ad) : Sp := fun vs H Q _ => ∃ (p : Addr) (x : Kp244.Drum) (t : Nat), vs = [.ref p, ni t] ∧ DrumAt a.CD H p x ∧ GoodD x ∧ 1 ≤ t ∧ t ≤ 200 ∧ Q (ni (Kp244.turns x t)) H
def sp_Drum_metres (a : Ad) : Sp := fun vs H Q _ => ∃ (p : Addr) (x : Kp244.Drum) (t : Nat), vs = [.ref p, ni t] ∧ DrumAt a.CD H p x ∧ GoodD x ∧ 1 ≤ t ∧ t ≤ 200 ∧ Q (ni (Kp244.holds x t)) H
def sp_Drum_thickest (a : Ad) : Sp := fun vs H Q _ => ∃ (p : Addr) (x : Kp244.Drum) (m : Nat), vs = [.ref p, ni m] ∧ DrumAt a.CD H p x ∧ GoodD x ∧
  ∀ r : Nat, r ≤ 200 → (0 < r → m ≤ Kp244.holds x r) → (∀ k, r < k → k ≤ 200 → Kp244.holds x k < m) → Q (ni r) H
def sp_Drum_charged (a : Ad) : Sp := fun vs H Q _ => ∃ (p : Addr) (x : Kp244.Drum) (day free : Nat) (z : Nat × Nat × Nat), vs = [.ref p, ni day, ni free] ∧ DrumAt a.CD H p x ∧ x.lent = some z ∧ z.2.1 ≤ day ∧ day ≤ 100000 ∧
  Q (ni ((day - z.2.1 - free) * x.daily)) H
section
variable {P : Program} {w : World} {K : PySem.W.Frag} {mg : Str → Option Value} {base : Heap} {a : Ad}
theorem ok_Drum_init (T : Txt K mg a) : FnOk P w K mg base CX0 1 a.f_Drum_init a.fd_Drum_init ["self", "core", "flange", "wide", "daily", "pledge"] (sp_Drum_init a) := by
  refine T.d_Drum_init.F.ok sc_Drum_init (fun vs H Q E h => ?_) (fun cdv A outer s H vs Q E hr h => ⟨_, (pss_cons (ps_fld (pv 0) (pv 1) rfl)
      (pss_cons (ps_fld (pv 0) (pv 2) rfl)
      (pss_cons (ps_fld (pv 0) (pv 3) rfl)
      (pss_cons (ps_fld (pv 0) (pv 4) rfl)
      (pss_cons (ps_fld (pv 0) (pv 5) rfl)
      (pss_cons (ps_fld (pv 0) pe_non rfl)
      (pss_cons (ps_fld (pv 0) pe_int rfl)
      (pss_one (ps_fld (pv 0) pe_int rfl))))))))), ?_⟩)
  · obtain ⟨p, dx, c, f, w, d, pl, rfl, _⟩ := h
    rfl
  · obtain ⟨p, dx, c, f, w, d, pl, rfl, hp, k⟩ := h
    refine ⟨_, rfl, _, rfl, p, a.CD, dx, [], rfl, hp, T.cl_Drum, T.n_Drum_core, (by show 0 < 1000; decide), ?_⟩
    refine ⟨_, rfl, _, rfl, p, a.CD, dx, _, rfl, upd_same, T.cl_Drum, T.n_Drum_flange, (by show 1 < 1000; decide), ?_⟩
    refine ⟨_, rfl, _, rfl, p, a.CD, dx, _, rfl, upd_same, T.cl_Drum, T.n_Drum_wide, (by show 2 < 1000; decide), ?_⟩
    refine ⟨_, rfl, _, rfl, p, a.CD, dx, _, rfl, upd_same, T.cl_Drum, T.n_Drum_daily, (by show 3 < 1000; decide), ?_⟩
    refine ⟨_, rfl, _, rfl, p, a.CD, dx, _, rfl, upd_same, T.cl_Drum, T.n_Drum_pledge, (by show 4 < 1000; decide), ?_⟩
    refine ⟨_, rfl, p, a.CD, dx, _, rfl, upd_same, T.cl_Drum, T.n_Drum_guest, (by show 5 < 1000; decide), ?_⟩
    refine ⟨_, rfl, p, a.CD, dx, _, rfl, upd_same, T.cl_Drum, T.n_Drum_since, (by show 6 < 1000; decide), ?_⟩
    refine ⟨_, rfl, p, a.CD, dx, _, rfl, upd_same, T.cl_Drum, T.n_Drum_till, (by show 7 < 1000; decide), ?_⟩
    refine k _ ⟨dx, 0, 0, Eq.trans upd_same (congrArg (fun q => some (HO.ins a.CD dx q)) ?_), fun z e => by cases e⟩ fun b o e hb => ?_
    · repeat (first | exact rfl | refine (put_past (by decide +kernel)).trans (congrArg _ ?_))
    · repeat rw [upd_ne hb]
      exact e
theorem ok_Drum_layers (T : Txt K mg a) : FnOk P w K mg base CX0 1 a.f_Drum_layers a.fd_Drum_layers ["self", "thick"] (sp_Drum_layers a) := by
  refine T.d_Drum_layers.F.ok sc_Drum_layers (fun vs H Q E h => ?_) (fun cdv A outer s H vs Q E hr h => ⟨_, (pss_one (ps_ret (pe_op op_fdivNN (pe_op op_subN (pe_fld (pv 0) rfl) (pe_fld (pv 0) rfl)) (pe_op op_mulN pe_int (pv 1))))), ?_⟩)
  · obtain ⟨p, x, t, rfl, _⟩ := h
    rfl
  · obtain ⟨p, x, t, rfl, ⟨dx, s1, s2, hp, hl⟩, g, ht, ht2, q⟩ := h
    have gc := g.coref
    refine ⟨_, rfl, p, a.CD, dx, _, _, rfl, hp, T.cl_Drum, T.n_Drum_flange, dF_flange _ _ _ _, _, rfl, p, a.CD, dx, _, _, rfl, hp, T.cl_Drum, T.n_Drum_core, dF_core _ _ _ _, _, _, rfl, rfl, gc, _, rfl, 2, t, rfl, rfl, (by decide), _, _, rfl, rfl, ⟨by omega, by omega⟩, ?_⟩
    rw [layers_eq ht] at q
    exact q
theorem ok_Drum_turns (T : Txt K mg a) : FnOk P w K mg base CX0 1 a.f_Drum_turns a.fd_Drum_turns ["self", "thick"] (sp_Drum_turns a) := by
  refine T.d_Drum_turns.F.ok sc_Drum_turns (fun vs H Q E h => ?_) (fun cdv A outer s H vs Q E hr h => ⟨_, (pss_one (ps_ret (pe_op op_fdivNN (pe_fld (pv 0) rfl) (pv 1)))), ?_⟩)
  · obtain ⟨p, x, t, rfl, _⟩ := h
    rfl
  · obtain ⟨p, x, t, rfl, ⟨dx, s1, s2, hp, hl⟩, g, ht, ht2, q⟩ := h
    refine ⟨_, rfl, p, a.CD, dx, _, _, rfl, hp, T.cl_Drum, T.n_Drum_wide, dF_wide _ _ _ _, _, rfl, _, _, rfl, rfl, ⟨by omega, by omega⟩, ?_⟩
    rw [turns_eq ht] at q
    exact q
theorem ok_Drum_metres (T : Txt K mg a) : FnOk P w K mg base CX0 2 a.f_Drum_metres a.fd_Drum_metres ["self", "thick"] (sp_Drum_metres a) := by
  refine T.d_Drum_metres.F.ok sc_Drum_metres (fun vs H Q E h => ?_) (fun cdv A outer s H vs Q E hr h => ⟨_, (pss_cons (ps_set (i := 2) sc_Drum_metres.nd rfl (Or.inl rfl) (pe_meth (pv 0) T.cl_Drum T.m_Drum_turns (ok_Drum_turns T) (hr.mono (by decide)) T.d_Drum_turns.b .nil pass0 (pa_cons (pv 1) pa_nil)))
      (pss_cons (ps_set (i := 3) sc_Drum_metres.nd rfl (Or.inl rfl) pe_int)
      (pss_cons (ps_for PassesOwn.never rfl (pi_range1 rfl T.b_range (pa_cons (pe_meth (pv 0) T.cl_Drum T.m_Drum_layers (ok_Drum_layers T) (hr.mono (by decide)) T.d_Drum_layers.b .nil pass0 (pa_cons (pv 1) pa_nil)) pa_nil)) (pg_name (i := 4) sc_Drum_metres.nd rfl (Or.inl rfl))
        (pss_one (ps_set (i := 3) sc_Drum_metres.nd rfl (Or.inl rfl) (pe_op op_addN (pv 3) (pe_op op_fdivNN (pe_op op_mulN (pe_op op_mulN (pv 2) pe_int) (pe_op op_addN (pe_fld (pv 0) rfl) (pe_op op_mulN (pe_op op_addN (pe_op op_mulN pe_int (pv 4)) pe_int) (pv 1)))) pe_int)))))
      (pss_one (ps_ret (pe_op op_fdivNN (pv 3) (pe_cst T.c_MILLIMETRES))))))), ?_⟩)
  · obtain ⟨p, x, t, rfl, _⟩ := h
    rfl
  · obtain ⟨p, x, t, rfl, hd, g, ht, ht2, q⟩ := h
    obtain ⟨dx, s1, s2, hp, hl⟩ := id hd
    -- turns
    refine ⟨_, rfl, p, dx, _, rfl, hp, dF_no _ _ _ _ (by decide +kernel), _, rfl, p, x, t, rfl, hd, g, ht, ht2, ?_⟩
    -- the layers
    refine ⟨_, rfl, p, dx, _, rfl, hp, dF_no _ _ _ _ (by decide +kernel), _, rfl, p, x, t, rfl, hd, g, ht, ht2, ?_⟩
    have hL := layers_le g ht
    have hT := turns_le g ht
    refine ⟨_, rfl, by omega, by omega, for_range (lo := 0) (n := (Kp244.layers x t : Int).toNat) (fun i σ H' => H' = H ∧ ∃ v : Option V, σ = [some (.ref p), some (ni t), some (ni (Kp244.turns x t)), some (ni (upTo x t i)), v]) ⟨rfl, none, rfl⟩ ?_ ?_⟩
    · rintro i σ H' hi ⟨rfl, v, rfl⟩
      have hi' : i < Kp244.layers x t := by omega
      have c1 := g.coref
      have c2 := g.flange
      refine ⟨_, rfl, _, rfl, Kp244.turns x t, 22, rfl, rfl, by omega, ?_⟩
      refine ⟨_, rfl, p, a.CD, dx, _, _, rfl, hp, T.cl_Drum, T.n_Drum_core, dF_core _ _ _ _, _, rfl, 2, i, rfl, (by show V.int (0 + (i : Int)) = V.int (i : Int); rw [Int.zero_add]), (by decide), ?_⟩
      refine ⟨2 * i, 1, rfl, rfl, _, rfl, 2 * i + 1, t, rfl, rfl, by omega, ?_⟩
      refine ⟨x.core, (2 * i + 1) * t, rfl, rfl, Kp244.turns x t * 22, x.core + (2 * i + 1) * t, rfl, rfl, by omega, ?_⟩
      refine ⟨_, 7, rfl, rfl, ⟨by decide, by decide⟩, upTo x t i, Kp244.layer x t i, rfl, rfl, ?_⟩
      refine ⟨rfl, some (.int (0 + (i : Int))), ?_⟩
      rw [upTo_succ]
      rfl
    · rintro σ H' ⟨rfl, v, rfl⟩
      refine ⟨_, rfl, _, 1000, rfl, rfl, ⟨by decide, by decide⟩, ?_⟩
      rw [holds_eq] at q
      exact q
theorem ok_Drum_thickest (T : Txt K mg a) : FnOk P w K mg base CX0 3 a.f_Drum_thickest a.fd_Drum_thickest ["self", "metres"] (sp_Drum_thickest a) := by
  refine T.d_Drum_thickest.F.ok sc_Drum_thickest (fun vs H Q E h => ?_) (fun cdv A outer s H vs Q E hr h => ⟨_, (pss_cons (ps_set (i := 2) sc_Drum_thickest.nd rfl (Or.inl rfl) (pe_cst T.c_MOST_THICK))
      (pss_cons (ps_while PassesOwn.never (PW.pt (pw_and (pt_cmpR op_gt (pv 2) pe_int (nomark _)) (pw_and1 (pt_cmpR op_lt (pe_meth (pv 0) T.cl_Drum T.m_Drum_metres (ok_Drum_metres T) (hr.mono (by decide)) T.d_Drum_metres.b .nil pass0 (pa_cons (pv 2) pa_nil)) (pv 1) (nomark _)))))
        (pss_one (ps_set (i := 2) sc_Drum_thickest.nd rfl (Or.inl rfl) (pe_op op_subN (pv 2) pe_int))))
      (pss_one (ps_ret (pv 2))))), ?_⟩)
  · obtain ⟨p, x, m, rfl, _⟩ := h
    rfl
  · obtain ⟨p, x, m, rfl, hd, g, q⟩ := h
    obtain ⟨dx, s1, s2, hp, hl⟩ := id hd
    refine ⟨fun r σ H' => H' = H ∧ r ≤ 200 ∧ (∀ k, r < k → k ≤ 200 → Kp244.holds x k < m) ∧ σ = [some (.ref p), some (ni m), some (ni r)], ⟨200, rfl, Nat.le_refl _, fun k a b => by omega, rfl⟩, ?_⟩
    rintro r σ H' ⟨rfl, hr200, hk, rfl⟩
    refine ⟨_, rfl, _, _, rfl, rfl, _, rfl, ?_⟩
    by_cases c : 0 < r
    · refine if_true_of (decide_eq_true (by omega)) ?_
      refine ⟨_, rfl, p, dx, _, rfl, hp, dF_no _ _ _ _ (by decide +kernel), _, rfl, p, x, r, rfl, hd, g, c, hr200, ?_⟩
      refine ⟨_, rfl, _, _, rfl, rfl, _, rfl, ?_⟩
      by_cases c2 : Kp244.holds x r < m
      · refine if_true_of (decide_eq_true (by omega)) ?_
        refine ⟨fun σ' H'' => H'' = H' ∧ σ' = [some (.ref p), some (ni m), some (ni (r - 1))], fun σ' H'' ⟨e1, e2⟩ => ⟨r - 1, by omega, e1, by omega, fun k h1 h2 => ?_, e2⟩, _, rfl, r, 1, rfl, rfl, c, rfl, rfl⟩
        by_cases e : k = r
        · rw [e]; exact c2
        · exact hk k (by omega) h2
      · refine if_false_of (decide_eq_false (by omega)) ?_
        exact ⟨_, rfl, q r hr200 (fun _ => by omega) hk⟩
    · refine if_false_of (decide_eq_false (by omega)) ?_
      refine if_false_of rfl ?_
      exact ⟨_, rfl, q r hr200 (fun z => absurd z c) hk⟩
theorem ok_Drum_charged (T : Txt K mg a) : FnOk P w K mg base CX0 1 a.f_Drum_charged a.fd_Drum_charged ["self", "today", "free_days"] (sp_Drum_charged a) := by
  refine T.d_Drum_charged.F.ok sc_Drum_charged (fun vs H Q E h => ?_) (fun cdv A outer s H vs Q E hr h => ⟨_, (pss_one (ps_ret (pe_op op_mulN (pe_callB (call_max2 rfl) (by rfl) T.b_max (by decide +kernel) (pa_cons pe_int (pa_cons (pe_op op_sub (pe_op op_sub (pv 1) (pe_fld (pv 0) rfl)) (pv 2)) pa_nil))) (pe_fld (pv 0) rfl)))), ?_⟩)
  · obtain ⟨p, x, day, free, z, rfl, _⟩ := h
    rfl
  · obtain ⟨p, x, day, free, z, rfl, ⟨dx, s1, s2, hp, hl⟩, hz, hday, hd2, q⟩ := h
    obtain ⟨e1, e2⟩ := hl z hz
    subst e1 e2
    refine ⟨_, rfl, _, rfl, p, a.CD, dx, _, _, rfl, hp, T.cl_Drum, T.n_Drum_since, dF_since _ _ _ _, _, _, rfl, rfl, _, rfl, _, _, rfl, rfl, _, _, rfl, ?_⟩
    refine ⟨_, rfl, p, a.CD, dx, _, _, rfl, hp, T.cl_Drum, T.n_Drum_daily, dF_daily _ _ _ _, day - z.2.1 - free, x.daily, ?_, rfl, by omega, q⟩
    congr 1
    split <;> omega
end
end Ld
/-! The plans. -/
namespace Ld
open PySem PySem.Spec PyProof.Rows L2
/-- plans in the heap -/
def PlansAt (H : Hp) (as : List Addr) (pss : List (List Nat)) : Prop := as.length = pss.length ∧ ∀ (i : Nat) (q : Addr) (p : List Nat), as[i]? = some q → pss[i]? = some p → H q = some (.lst (nl p))
theorem PlansAt.same {H H' : Hp} {as : List Addr} {pss : List (List Nat)} (e : Same H H') (h : PlansAt H as pss) : PlansAt H' as pss := ⟨h.1, fun i q p a b => e _ _ (h.2 i q p a b)⟩
/-- the free drums' room as the program keeps it -/
def roomK (F : List Nat) (room : Nat → Nat) : List (Key × V) := F.map fun (d : Nat) => (Sum.inl (d : Int), V.int (room d : Int))
def sp_longer_plans (a : Ad) : Sp := fun vs H Q _ => ∃ (pa na : Addr) (as : List Addr) (pss : List (List Nat)) (ns : List Nat), vs = [.ref pa, .ref na] ∧ H pa = some (.lst (as.map V.ref)) ∧ PlansAt H as pss ∧ H na = some (.lst (nl ns)) ∧
  (∀ p ∈ pss, p.length ≤ 10) ∧ pss.length ≤ 10000 ∧ ns.length ≤ 10 ∧ ∀ H' q as', Same H H' → H q = none → H' q = some (.lst (as'.map V.ref)) → PlansAt H' as' (longer pss ns) → Q (.ref q) H'
def sp_fits (a : Ad) : Sp := fun vs H Q _ => ∃ (pa la ra : Addr) (p ls F : List Nat) (room : Nat → Nat), vs = [.ref pa, .ref la, .ref ra] ∧ H pa = some (.lst (nl p)) ∧ H la = some (.lst (nl ls)) ∧ H ra = some (.dK (roomK F room)) ∧
  p.length = ls.length ∧ ls.length ≤ 10 ∧ ∀ H', Same H H' → Q (.bl (fitsP F room ls p)) H'
def sp_best_plan (a : Ad) : Sp := fun vs H Q _ => ∃ (da la : Addr) (ds : List Addr) (m : Kp244.Yard) (ls : List Nat) (t : Nat), vs = [.ref da, .ref la, ni t] ∧ H da = some (.lst (ds.map V.ref)) ∧ DrumsAt a.CD H ds m.drums ∧
  (∀ x ∈ m.drums, GoodD x) ∧ m.drums.length ≤ 6 ∧ H la = some (.lst (nl ls)) ∧ ls.length ≤ 5 ∧ 1 ≤ t ∧ t ≤ 200 ∧
  (∀ H', Same H H' → bestP m t ls = none → Q .non H') ∧ ∀ H' q p, Same H H' → bestP m t ls = some p → H' q = some (.lst (nl p)) → Q (.ref q) H'
def sp_taken (a : Ad) : Sp := fun vs H Q _ => ∃ (pa : Addr) (p : List Nat), vs = [.ref pa] ∧ H pa = some (.lst (nl p)) ∧ p.length ≤ 10 ∧ ∀ H' q, Same H H' → H' q = some (.lst (nl (takenP p))) → Q (.ref q) H'
def sp_drum_count (a : Ad) : Sp := fun vs H Q _ => ∃ (pa : Addr) (p : List Nat), vs = [.ref pa] ∧ H pa = some (.lst (nl p)) ∧ p.length ≤ 10 ∧ ∀ H', Same H H' → Q (ni (takenP p).length) H'
def sp_daily_cost (a : Ad) : Sp := fun vs H Q _ => ∃ (da pa : Addr) (ds : List Addr) (m : Kp244.Yard) (p : List Nat), vs = [.ref da, .ref pa] ∧ H da = some (.lst (ds.map V.ref)) ∧ DrumsAt a.CD H ds m.drums ∧ H pa = some (.lst (nl p)) ∧ p.length ≤ 10 ∧
  (∀ d ∈ p, d < m.drums.length) ∧ ∀ H', Same H H' → Q (ni ((takenP p).map fun d => (Kp244.drumAt m d).daily).sum) H'
theorem takenUpTo_filter (p : List Nat) : ∀ n : Nat, n ≤ p.length → takenUpTo p n = ((List.range n).filter fun i => !decide (p.getD i 0 ∈ p.take i)).map fun i => p.getD i 0
  | 0, _ => rfl
  | n + 1, h => by
    rw [filter_range_succ, List.map_append, ← takenUpTo_filter p n (by omega)]
    show (if p.getD n 0 ∈ p.take n then takenUpTo p n else takenUpTo p n ++ [p.getD n 0]) = _
    show _ = _ ++ List.map _ (if (!decide (p.getD n 0 ∈ p.take n)) = true then [n] else [])
    by_cases c : p.getD n 0 ∈ p.take n
    · rw [if_pos c, decide_eq_true c, Bool.not_true, if_neg Bool.false_ne_true, List.map_nil, List.append_nil]
    · rw [if_neg c, decide_eq_false c, Bool.not_false, if_pos rfl]
      rfl
theorem inV_nl (n : Nat) : ∀ l : List Nat, inV (.int (n : Int)) (nl l) = decide (n ∈ l)
  | [] => rfl
  | x :: l => by
    have ih := inV_nl n l
    unfold inV nl at ih ⊢
    rw [List.map_cons, List.any_cons, ih]
    by_cases e : x = n
    · subst e
      have : eqV (.int (x : Int)) (.int (x : Int)) = true := by simp [eqV]
      rw [this]
      simp
    · have : eqV (.int (x : Int)) (.int (n : Int)) = false := by
        simp only [eqV]
        simp
        omega
      rw [this]
      simp [Ne.symm e]
theorem nl_flat : ∀ l : List Nat, (nl l).all flatV = true
  | [] => rfl
  | x :: l => by
    have ih := nl_flat l
    unfold nl at ih ⊢
    rw [List.map_cons, List.all_cons, ih]
    rfl
theorem cutV_take (l : List Nat) (i : Nat) : cutV (nl l) none (some (i : Int)) = nl (l.take i) := by
  unfold cutV nl
  rw [HT.sIx_none, HT.sIx_nat, List.drop_zero, Nat.sub_zero, ← List.map_take]
  congr 1
  rw [List.length_map]
  rcases Nat.le_total i l.length with h | h
  · rw [Nat.min_eq_left h]
  · rw [Nat.min_eq_right h, List.take_length, List.take_of_length_le h]
theorem filter_all (n : Nat) : (List.range n).filter (fun _ => true) = List.range n := List.filter_eq_self.mpr fun _ _ => rfl
theorem map_range_getD {α : Type} (g : Nat → α) : ∀ l : List Nat, (List.range l.length).map (fun i => g (l.getD i 0)) = l.map g
  | [] => rfl
  | x :: l => by
    rw [List.length_cons, List.range_succ_eq_map, List.map_cons, List.map_map, List.map_cons, ← map_range_getD g l]
    rfl
theorem sum_cast : ∀ l : List Nat, (l.map fun (n : Nat) => (n : Int)).sum = ((l.sum : Nat) : Int)
  | [] => rfl
  | x :: l => by
    rw [List.map_cons, List.sum_cons, List.sum_cons, sum_cast l]
    omega
theorem nl_ints (l : List Nat) : nl l = (l.map fun (n : Nat) => (n : Int)).map V.int := by
  unfold nl
  rw [List.map_map]
  rfl
theorem longer_length (ps : List (List Nat)) (ns : List Nat) : (longer ps ns).length = ps.length * ns.length := by
  unfold longer
  induction ps with
  | nil => simp
  | cons p ps ih => rw [List.flatMap_cons, List.length_append, ih, List.length_map, List.length_cons, Nat.succ_mul]; omega
theorem longer_snoc (ps : List (List Nat)) (p : List Nat) (ns : List Nat) : longer (ps ++ [p]) ns = longer ps ns ++ ns.map fun n => p ++ [n] := by
  unfold longer
  rw [List.flatMap_append]
  simp
theorem take_more {α : Type} : ∀ {l : List α} {i : Nat} {x : α}, l[i]? = some x → l.take (i + 1) = l.take i ++ [x]
  | [], i, x, h => by simp at h
  | a :: l, 0, x, h => by
    have e : a = x := Option.some.inj h
    subst e
    rfl
  | a :: l, i + 1, x, h => by
    have ih := take_more (l := l) (i := i) (x := x) h
    show a :: l.take (i + 1) = a :: l.take i ++ [x]
    rw [ih]
    rfl
/-- new lists, one a place -/
theorem plans_of {H : Hp} {fl : Addr} {p : List Nat} {g : Nat → Nat} : ∀ {l : List Nat} {acc : List V}, Paired (fun i y => ∃ q, y = V.ref q ∧ q ≠ fl ∧ H q = some (.lst (nl (p ++ [g i])))) l acc →
    ∃ qs : List Addr, acc = qs.map V.ref ∧ (∀ q ∈ qs, q ≠ fl) ∧ PlansAt H qs (l.map fun i => p ++ [g i])
  | _, _, .nil => ⟨[], rfl, (fun q h => by cases h), ⟨rfl, fun i q r h => by cases h⟩⟩
  | _, _, .cons (a := i) ⟨q, e, hn, hq⟩ t => by
    obtain ⟨qs, e2, h2, h3, h4⟩ := plans_of t
    refine ⟨q :: qs, by rw [e, e2]; rfl, fun x hx => ?_, by rw [List.length_cons, h3]; rfl, fun j x r h1 h2 => ?_⟩
    · rcases List.mem_cons.mp hx with rfl | hx
      · exact hn
      · exact h2 x hx
    · cases j with
      | zero => cases h1; cases h2; exact hq
      | succ j => exact h4 j x r h1 h2
theorem PlansAt.append {H : Hp} {as bs : List Addr} {ps qs : List (List Nat)} (h : PlansAt H as ps) (k : PlansAt H bs qs) : PlansAt H (as ++ bs) (ps ++ qs) := by
  refine ⟨by rw [List.length_append, List.length_append, h.1, k.1], fun i q p a b => ?_⟩
  by_cases c : i < as.length
  · rw [List.getElem?_append_left c] at a
    rw [List.getElem?_append_left (by rw [← h.1]; exact c)] at b
    exact h.2 i q p a b
  · rw [List.getElem?_append_right (by omega)] at a
    rw [List.getElem?_append_right (by rw [← h.1]; omega), ← h.1] at b
    exact k.2 _ q p a b
section
variable {P : Program} {w : World} {K : PySem.W.Frag} {mg : Str → Option Value} {base : Heap} {a : Ad}
theorem ok_taken (T : Txt K mg a) : FnOk P w K mg base CX0 1 a.f_taken a.fd_taken ["plan"] (sp_taken a) := by
  refine T.d_taken.F.ok sc_taken (fun vs H Q E h => ?_) (fun cdv A outer s H vs Q E hr h => ⟨_, (pss_one (ps_ret (pe_lc (own := [("place", 1), ("number", 2)]) (g := gTup K 2 (gCons (gName 1) (gCons (gName 2) gNil))) rfl sc_taken.nd (pi_enum rfl T.b_enumerate (pa_cons (pv 0) pa_nil)) (blkOk_by (own := [("place", 1), ("number", 2)]) (N := ["plan", "place", "number"]) (sc := defScope s_taken) (by decide +kernel)) (fun _ _ _ _ _ => (pg_tup rfl (pgs_cons (pg_name (i := 1) sc_taken.nd rfl (Or.inl rfl)) (pgs_cons (pg_name (i := 2) sc_taken.nd rfl (Or.inl rfl)) pgs_nil)))) (fun _ _ _ _ _ => pts_one (pt_cmpR (op_notIn_seqK K rfl) (pv 2) (pe_slice (sl_listK K rfl) (pv 0) po_none (po_some (pv 1))) (by rfl))) (fun _ _ _ _ _ => (pv 2))))), ?_⟩)
  · obtain ⟨pa, p, rfl, _⟩ := h
    rfl
  · obtain ⟨pa, p, rfl, hp, hlen, k⟩ := h
    refine ⟨_, rfl, pa, _, rfl, SqL.of hp, fun D hD => ?_⟩
    refine lc_fun walk_enum (fun i v H' => ∃ T, v = .ref T ∧ H' T = some (.tup [.int (i : Nat), .int (p.getD i 0 : Nat)])) (fun i => !decide (p.getD i 0 ∈ p.take i)) (fun i => .int (p.getD i 0 : Nat)) hD (by rw [nl_length]; omega) (fun H' sm => SqL.of (sm _ _ hp)) ?_ ?_ ?_
    · intro i H1 v H2 hi sm y
      obtain ⟨s2, T, x, z, rfl, hT, hx, hz⟩ := y_pair y
      cases hx
      obtain ⟨n, hn, rfl⟩ := nl_at hz
      refine ⟨s2, T, rfl, ?_⟩
      rw [hT, List.getD_eq_getElem?_getD, hn]
      rfl
    · rintro i v H1 N1 N2 hi sm ⟨T, rfl, hT⟩ k1 k2
      refine ⟨T, _, rfl, SqT.of hT, rfl, _, _, rfl, _, _, rfl, rfl, rfl, ?_⟩
      refine ⟨_, rfl, _, rfl, _, rfl, i, rfl, pa, _, rfl, SqL.of (sm _ _ hp), fun q hq => ?_⟩
      refine ⟨q, _, rfl, .inl (SqL.of upd_same), rfl, ?_, _, rfl, ?_⟩
      · rw [cutV_take]
        exact nl_flat _
      · rw [cutV_take, inV_nl, if_pos rfl]
        cases c : !decide (p.getD i 0 ∈ p.take i) with
        | true => exact if_true_of rfl ⟨_, rfl, k2 _ (same_upd hq) c⟩
        | false => exact if_false_of rfl (k1 _ (same_upd hq) c)
    · intro H' sm hH
      refine k _ D sm ?_
      rw [hH, nl_length]
      unfold takenP
      rw [takenUpTo_filter p p.length (Nat.le_refl _)]
      unfold nl
      rw [List.map_map]
      rfl
theorem ok_drum_count (T : Txt K mg a) : FnOk P w K mg base CX0 2 a.f_drum_count a.fd_drum_count ["plan"] (sp_drum_count a) := by
  refine T.d_drum_count.F.ok sc_drum_count (fun vs H Q E h => ?_) (fun cdv A outer s H vs Q E hr h => ⟨_, (pss_one (ps_ret (pe_callB call_len_seq (by rfl) T.b_len PySem.boot_len (pa_cons (pe_call (ok_taken T) (hr.mono (by decide)) rfl T.g_taken T.d_taken.F.kp T.d_taken.b .nil pass0 (pa_cons (pv 0) pa_nil)) pa_nil)))), ?_⟩)
  · obtain ⟨pa, p, rfl, _⟩ := h
    rfl
  · obtain ⟨pa, p, rfl, hp, hlen, k⟩ := h
    refine ⟨_, rfl, pa, p, rfl, hp, hlen, fun H' q sm hq => ⟨q, _, rfl, .inl (SqL.of hq), ?_⟩⟩
    rw [nl_length]
    exact k H' sm
theorem ok_daily_cost (T : Txt K mg a) : FnOk P w K mg base CX0 2 a.f_daily_cost a.fd_daily_cost ["drums", "plan"] (sp_daily_cost a) := by
  refine T.d_daily_cost.F.ok sc_daily_cost (fun vs H Q E h => ?_) (fun cdv A outer s H vs Q E hr h => ⟨_, (pss_one (ps_ret (pe_callB (cr_sum rfl) (by rfl) T.b_sum (by decide +kernel) (pa_cons (pe_lc (own := [("number", 2)]) (g := gName 2) (tt := tYes) rfl sc_daily_cost.nd (pi_list (pe_call (ok_taken T) (hr.mono (by decide)) rfl T.g_taken T.d_taken.F.kp T.d_taken.b .nil pass0 (pa_cons (pv 1) pa_nil))) (blkOk_by (own := [("number", 2)]) (N := ["drums", "plan", "number"]) (sc := defScope s_daily_cost) (by decide +kernel)) (fun _ _ _ _ _ => (pg_name (i := 2) sc_daily_cost.nd rfl (Or.inl rfl))) (fun _ _ _ _ _ => pts_nil) (fun _ _ _ _ _ => (pe_fldK K rfl (pe_ix (ix_listK K rfl) (pv 0) (pv 2) (fun _ _ => rfl)) rfl))) pa_nil)))), ?_⟩)
  · obtain ⟨da, pa, ds, m, p, rfl, _⟩ := h
    rfl
  · obtain ⟨da, pa, ds, m, p, rfl, hda, hds, hp, hlen, hd, k⟩ := h
    refine ⟨_, rfl, pa, p, rfl, hp, hlen, fun H1 q sm hq => ⟨q, rfl, ⟨_, SqL.of hq⟩, fun D hD => ?_⟩⟩
    have hmem : ∀ d ∈ takenP p, d < m.drums.length := fun d h => hd d (by
      have := (taken_mem (p := p) (Nat.le_refl _) d).mp h
      rw [List.take_length] at this
      exact this)
    have hlen2 : (takenP p).length ≤ 10 := by
      unfold takenP
      rw [takenUpTo_filter p p.length (Nat.le_refl _), List.length_map]
      exact Nat.le_trans (filter_range_le _ _) hlen
    refine lc_fun (walk_list (xs := nl (takenP p))) (fun i v _ => v = .int ((takenP p).getD i 0 : Nat)) (fun _ => true) (fun i => .int ((Kp244.drumAt m ((takenP p).getD i 0)).daily : Nat)) hD (by rw [nl_length]; omega) (fun H' sm' => SqL.of (sm' _ _ hq)) ?_ ?_ ?_
    · intro i Ha v Hb hi sm' y
      obtain ⟨s2, e⟩ := y_at y
      obtain ⟨n, hn, rfl⟩ := nl_at e
      refine ⟨s2, ?_⟩
      rw [List.getD_eq_getElem?_getD, hn]
      rfl
    · rintro i v Ha N1 N2 hi sm' rfl k1 k2
      rw [nl_length] at hi
      have e : (takenP p)[i]? = some ((takenP p).getD i 0) := by
        rw [List.getD_eq_getElem?_getD, List.getElem?_eq_getElem hi]
        rfl
      have hm := hmem _ (List.mem_of_getElem? e)
      obtain ⟨pd, h1, h2⟩ := hds.get hm
      obtain ⟨dx, s1, s2, h3, _⟩ := h2
      exact ⟨rfl, _, rfl, _, rfl, da, ds.map V.ref, _, _, rfl, rfl, SqL.of ((sm.trans sm') _ _ hda), atI_nat (by rw [List.getElem?_map, h1]; rfl), pd, a.CD, dx, _, _, rfl, (sm.trans sm') _ _ h3, T.cl_Drum, T.n_Drum_daily, dF_daily _ _ _ _, k2 _ (Same.refl _) rfl⟩
    · intro H' sm' hH
      refine ⟨D, (((takenP p).map fun d => (Kp244.drumAt m d).daily).map fun (n : Nat) => (n : Int)), rfl, SqL.of ?_, ?_⟩
      · rw [hH, nl_length, filter_all, map_range_getD (fun d => V.int ((Kp244.drumAt m d).daily : Nat)), List.map_map, List.map_map]
        rfl
      · rw [sum_cast]
        exact k H' (sm.trans sm')
theorem ok_longer_plans (T : Txt K mg a) : FnOk P w K mg base CX0 1 a.f_longer_plans a.fd_longer_plans ["plans", "numbers"] (sp_longer_plans a) := by
  refine T.d_longer_plans.F.ok sc_longer_plans (fun vs H Q E h => ?_) (fun cdv A outer s H vs Q E hr h => ⟨_, (pss_cons (ps_set (i := 2) sc_longer_plans.nd rfl (Or.inl rfl) (pe_lst pa_nil))
      (pss_cons (ps_for PassesOwn.never rfl (pi_list (pv 0)) (pg_name (i := 3) sc_longer_plans.nd rfl (Or.inr rfl))
        (pss_one (ps_expr (pe_bm PySem.F.plainAttrs_list PySem.F.slot_list_extend PySem.F.type_list_extend mt_extend (pv 2) (pa_cons (pe_lc (own := [("number", 4)]) (g := gName 4) (tt := tYes) rfl sc_longer_plans.nd (pi_list (pv 1)) (blkOk_by (own := [("number", 4)]) (N := ["plans", "numbers", "found", "plan", "number"]) (sc := defScope s_longer_plans) (by decide +kernel)) (fun _ _ _ _ _ => (pg_name (i := 4) sc_longer_plans.nd rfl (Or.inl rfl))) (fun _ _ _ _ _ => pts_nil) (fun _ _ _ _ _ => (pe_op op_cat (pv 3) (pe_lst (pa_cons (pv 4) pa_nil))))) pa_nil)))))
      (pss_one (ps_ret (pv 2))))), ?_⟩)
  · obtain ⟨pa, na, as, pss, ns, rfl, _⟩ := h
    rfl
  · obtain ⟨pa, na, as, pss, ns, rfl, hpa, hps, hna, hl1, hl2, hl3, k⟩ := h
    refine ⟨Nat.zero_le _, fun fl hfl => ?_⟩
    refine ⟨_, rfl, pa, rfl, ⟨_, SqL.of (same_upd hfl _ _ hpa)⟩, for_list (K := K) (a := pa) (xs := as.map V.ref) (fun i σ H' => Same H H' ∧ ∃ v as', σ = [some (.ref pa), some (.ref na), some (.ref fl), v, none] ∧ H' fl = some (.lst (as'.map V.ref)) ∧ (∀ q ∈ as', q ≠ fl) ∧ PlansAt H' as' (longer (pss.take i) ns))
      ⟨same_upd hfl, none, [], rfl, upd_same, (fun q h => by cases h), ⟨rfl, fun i q r h => by cases h⟩⟩ (fun i σ H' _ h => SqL.of (h.1 _ _ hpa)) ?_ ?_⟩
    · rintro i v σ H' hi ⟨sm, v0, as', rfl, hfl', hne, hP⟩
      obtain ⟨q, hq, rfl⟩ := refs_at hi
      have hlt : i < pss.length := by
        rw [← hps.1]
        rcases Nat.lt_or_ge i as.length with z | z
        · exact z
        · rw [List.getElem?_eq_none z] at hq; cases hq
      have hp2 : pss[i]? = some pss[i] := List.getElem?_eq_getElem hlt
      have hplan := hps.2 i q _ hq hp2
      have hpl := hl1 _ (List.getElem_mem hlt)
      refine ⟨_, rfl, .inl ⟨rfl, _, SqL.of hfl'⟩, _, rfl, na, rfl, ⟨_, SqL.of (sm _ _ hna)⟩, fun D hD => ?_⟩
      refine lc_gen (walk_list (xs := nl ns)) (fun i v _ => v = .int (ns.getD i 0 : Nat)) (fun j y Hj => ∃ q, y = V.ref q ∧ q ≠ D ∧ q ≠ fl ∧ Hj q = some (.lst (nl (pss[i] ++ [ns.getD j 0])))) (fun _ => true) hD (by rw [nl_length]; omega) (fun H2 s2 => SqL.of ((sm.trans s2) _ _ hna)) ?_ ?_ ?_ ?_
      · intro j Ha v Hb hj sm' y
        obtain ⟨s2, e⟩ := y_at y
        obtain ⟨n, hn, rfl⟩ := nl_at e
        refine ⟨s2, ?_⟩
        rw [List.getD_eq_getElem?_getD, hn]
        rfl
      · rintro j y Ha Hb hk ⟨q, rfl, h1, h2, h3⟩
        exact ⟨q, rfl, h1, h2, hk q _ h1 h3⟩
      · rintro j v Ha N1 N2 hj sm' ⟨acc, hacc⟩ rfl k1 k2
        refine ⟨rfl, _, rfl, _, rfl, (by show 1 ≤ sizeLine; decide), fun q1 hq1 => ?_⟩
        refine ⟨q, q1, _, _, rfl, rfl, same_upd hq1 _ _ ((sm.trans sm') _ _ hplan), upd_same, ?_, fun q2 hq2 => ?_⟩
        · rw [nl_length, sizeLine_eq]
          show pss[i].length + 1 ≤ _
          omega
        · have n1 : q2 ≠ D := fun e => by
            rw [e, same_upd hq1 _ _ hacc] at hq2
            cases hq2
          have n2 : q2 ≠ fl := fun e => by
            rw [e, same_upd hq1 _ _ (sm' _ _ hfl')] at hq2
            cases hq2
          refine k2 _ _ ((same_upd hq1).trans (same_upd hq2)) rfl ⟨q2, rfl, n1, n2, ?_⟩
          rw [upd_same]
          unfold nl
          rw [List.map_append]
          rfl
      · intro H2 acc sm' hacc hpair
        rw [nl_length, filter_all] at hpair
        obtain ⟨qs, rfl, hqs, hPq⟩ := plans_of (fl := fl) (p := pss[i]) (g := fun j => ns.getD j 0) (L2.Paired.mapP hpair fun j y ⟨q, h1, h2, h3, h4⟩ => ⟨q, h1, h3, h4⟩)
        have e3 : (List.range ns.length).map (fun j => pss[i] ++ [ns.getD j 0]) = ns.map fun n => pss[i] ++ [n] := map_range_getD (fun n => pss[i] ++ [n]) ns
        rw [e3] at hPq
        have hfl2 := sm' _ _ hfl'
        refine ⟨fl, D, _, _, rfl, rfl, hfl2, hacc, ?_, ?_⟩
        · rw [List.length_map, List.length_map, hP.1, hPq.1, longer_length, List.length_map, List.length_take, sizeLine_eq]
          have : (min i pss.length) * ns.length ≤ 10000 * 10 := Nat.mul_le_mul (Nat.le_trans (Nat.min_le_right _ _) hl2) hl3
          omega
        · have up : ∀ b o, b ≠ fl → H2 b = some o → upd H2 fl (.lst (as'.map V.ref ++ qs.map V.ref)) b = some o := fun b o hb e => by
            rw [upd_ne hb]
            exact e
          refine ⟨fun b o e => ?_, some (.ref q), as' ++ qs, rfl, ?_, fun x hx => ?_, ?_⟩
          · have hb : b ≠ fl := ne_of_none e hfl
            exact up b o hb ((sm.trans sm') _ _ e)
          · rw [upd_same, List.map_append]
          · rcases List.mem_append.mp hx with hx | hx
            · exact hne x hx
            · exact hqs x hx
          · rw [take_more hp2, longer_snoc]
            have hP2 := PlansAt.append (hP.same sm') hPq
            refine ⟨hP2.1, fun j x r h1 h2 => up x _ ?_ (hP2.2 j x r h1 h2)⟩
            have hx : x ∈ as' ++ qs := List.mem_of_getElem? h1
            rcases List.mem_append.mp hx with hx | hx
            · exact hne x hx
            · exact hqs x hx
    · rintro σ H' ⟨sm, v0, as', rfl, hfl', hne, hP⟩
      rw [List.length_map, hps.1, List.take_length] at hP
      exact ⟨_, rfl, k H' fl as' sm hfl hfl' hP⟩
end
end Ld
/-! The plans: whether one fits, the best. -/
namespace Ld
open PySem PySem.Spec PyProof.Rows L2
theorem valV_room {room : Nat → Nat} {d : Nat} : ∀ {F : List Nat}, d ∈ F → valV (roomK F room) (Sum.inl (d : Int)) = some (.int (room d : Int))
  | x :: F, h => by
    show valV ((Sum.inl (x : Int), V.int (room x : Int)) :: roomK F room) _ = _
    by_cases e : x = d
    · subst e
      exact valV_pos rfl
    · have h' : d ∈ F := by
        rcases List.mem_cons.mp h with z | z
        · exact absurd z.symm e
        · exact z
      refine (valV_neg fun z => e ?_).trans (valV_room h')
      have z : (x : Int) = (d : Int) := Sum.inl.inj z
      omega
theorem valV_room_none {room : Nat → Nat} {d : Nat} : ∀ {F : List Nat}, d ∉ F → valV (roomK F room) (Sum.inl (d : Int)) = none
  | [], _ => rfl
  | x :: F, h => by
    show valV ((Sum.inl (x : Int), V.int (room x : Int)) :: roomK F room) _ = _
    refine (valV_neg fun z => h ?_).trans (valV_room_none fun z => h (List.mem_cons_of_mem _ z))
    have z : (x : Int) = (d : Int) := Sum.inl.inj z
    have e : x = d := by omega
    rw [e]
    exact List.mem_cons_self
theorem roomK_at {F : List Nat} {room : Nat → Nat} {i : Nat} {k : Key} {v : V} (h : (roomK F room)[i]? = some (k, v)) : ∃ d, F[i]? = some d ∧ k = Sum.inl (d : Int) := by
  unfold roomK at h
  rw [List.getElem?_map] at h
  cases e : F[i]? with
  | none => rw [e] at h; cases h
  | some d =>
    rw [e] at h
    have h := Option.some.inj h
    exact ⟨d, rfl, (congrArg Prod.fst h).symm⟩
theorem roomK_length (F : List Nat) (room : Nat → Nat) : (roomK F room).length = F.length := List.length_map _
theorem filter_range_getD {β : Type} (P : Nat → Bool) (g : Nat → β) : ∀ F : List Nat, ((List.range F.length).filter fun i => P (F.getD i 0)).map (fun i => g (F.getD i 0)) = (F.filter P).map g
  | [] => rfl
  | x :: F => by
    rw [List.length_cons, List.range_succ_eq_map, List.filter_cons, List.filter_cons, List.filter_map]
    have ih := filter_range_getD P g F
    show (List.map _ (if P x = true then 0 :: _ else _)) = List.map g (if P x = true then x :: _ else _)
    by_cases c : P x = true
    · rw [if_pos c, if_pos c, List.map_cons, List.map_cons, List.map_map, ← ih]
      rfl
    · rw [if_neg c, if_neg c, List.map_map, ← ih]
      rfl
theorem onUpTo_filter (ls p : List Nat) (d n : Nat) : ((List.range n).filter fun i => decide (p.getD i 0 = d)).map (fun i => V.int (ls.getD i 0 : Nat)) = nl (onUpTo ls p d n) := by
  unfold onUpTo nl
  rw [List.map_map]
  rfl
theorem getD_of {l : List Nat} {i n : Nat} (h : l[i]? = some n) : l.getD i 0 = n := by
  rw [List.getD_eq_getElem?_getD, h]
  rfl
theorem get_of {l : List Nat} {i : Nat} (h : i < l.length) : l[i]? = some (l.getD i 0) := by
  rw [List.getD_eq_getElem?_getD, List.getElem?_eq_getElem h]
  rfl
section
variable {P : Program} {w : World} {K : PySem.W.Frag} {mg : Str → Option Value} {base : Heap} {a : Ad}
theorem ok_fits (T : Txt K mg a) : FnOk P w K mg base CX0 1 a.f_fits a.fd_fits ["plan", "lengths", "room"] (sp_fits a) := by
  refine T.d_fits.F.ok sc_fits (fun vs H Q E h => ?_) (fun cdv A outer s H vs Q E hr h => ⟨_, (pss_cons (ps_lock (ps_for PassesOwn.never rfl (pi_keys (pv 2)) (pg_name (i := 3) sc_fits.nd rfl (Or.inr rfl))
        (pss_one (ps_if (pt_cmpR op_gt (pe_callB (cr_sum rfl) (by rfl) T.b_sum (by decide +kernel) (pa_cons (pe_lc (own := [("place", 4), ("length", 5)]) (g := gTup K 2 (gCons (gName 4) (gCons (gName 5) gNil))) rfl sc_fits.nd (pi_enum rfl T.b_enumerate (pa_cons (pv 1) pa_nil)) (blkOk_by (own := [("place", 4), ("length", 5)]) (N := ["plan", "lengths", "room", "number", "place", "length"]) (sc := defScope s_fits) (by decide +kernel)) (fun _ _ _ _ _ => (pg_tup rfl (pgs_cons (pg_name (i := 4) sc_fits.nd rfl (Or.inl rfl)) (pgs_cons (pg_name (i := 5) sc_fits.nd rfl (Or.inl rfl)) pgs_nil)))) (fun _ _ _ _ _ => pts_one (pt_cmpR op_eq (pe_ix (ix_listK K rfl) (pv 0) (pv 4) (fun _ _ => rfl)) (pv 3) (nomark _))) (fun _ _ _ _ _ => (pv 5))) pa_nil)) (pe_dget (hu_of hr) (pv 2) (pv 3) (fun _ _ => rfl)) (nomark _)) (pss_one (ps_ret pe_bl)) pss_nil))))
      (pss_one (ps_ret pe_bl))), ?_⟩)
  · obtain ⟨pa, la, ra, p, ls, F, room, rfl, _⟩ := h
    rfl
  · obtain ⟨pa, la, ra, p, ls, F, room, rfl, hp, hl, hr', hlen, h10, k⟩ := h
    refine ⟨ra, .dK (roomK F room), hr', trivial, fun od => ?_⟩
    have neP : pa ≠ ra := ne_of hp hr' (by intro z; cases z)
    have neL : la ≠ ra := ne_of hl hr' (by intro z; cases z)
    have back : ∀ H', Same (upd H ra (.frz od (.dK (roomK F room)))) H' → Same H (upd H' ra (.dK (roomK F room))) := fun H' sm b o e => by
      by_cases hb : b = ra
      · subst hb
        rw [upd_same, ← e, hr']
      · rw [upd_ne hb]
        exact sm b o (by rw [upd_ne hb]; exact e)
    refine ⟨_, rfl, ra, od, rfl, .inl ⟨roomK F room, upd_same, for_it walk_keys (fun i σ H' => Same (upd H ra (.frz od (.dK (roomK F room)))) H' ∧ (∀ (j d : Nat), j < i → F[j]? = some d → (onUpTo ls p d ls.length).sum ≤ room d) ∧
        ∃ v : Option V, σ = [some (.ref pa), some (.ref la), some (.ref ra), v, none, none])
      ⟨Same.refl _, fun j d hj => by omega, none, rfl⟩ (fun i σ H' _ h => h.1 _ _ upd_same) ?_ ?_⟩⟩
    · rintro i x σ H1 H2 hi ⟨sm, hall, v0, rfl⟩ ⟨rfl, kk, vv, hkv, rfl⟩
      obtain ⟨d, hd, rfl⟩ := roomK_at hkv
      have hl2 : H2 la = some (.lst (nl ls)) := sm _ _ (by rw [upd_ne neL]; exact hl)
      have hp2 : H2 pa = some (.lst (nl p)) := sm _ _ (by rw [upd_ne neP]; exact hp)
      refine ⟨_, rfl, la, nl ls, rfl, SqL.of hl2, fun D hD => ?_⟩
      refine lc_fun (walk_enum (xs := nl ls)) (fun i v H' => ∃ T, v = .ref T ∧ H' T = some (.tup [.int (i : Nat), .int (ls.getD i 0 : Nat)])) (fun i => decide (p.getD i 0 = d)) (fun i => .int (ls.getD i 0 : Nat)) hD (by rw [nl_length]; omega) (fun H' s => SqL.of (s _ _ hl2)) ?_ ?_ ?_
      · intro j Ha v Hb hj s y
        obtain ⟨s2, T', x, z, rfl, hT, hx, hz⟩ := y_pair y
        cases hx
        obtain ⟨n, hn, rfl⟩ := nl_at hz
        exact ⟨s2, T', rfl, by rw [hT, getD_of hn]⟩
      · rintro j v Ha N1 N2 hj s ⟨T', rfl, hT⟩ k1 k2
        rw [nl_length] at hj
        have hpj : (nl p)[j]? = some (.int (p.getD j 0 : Nat)) := nl_get (get_of (by omega))
        refine ⟨T', _, rfl, SqT.of hT, rfl, _, _, rfl, _, _, rfl, rfl, rfl, ?_⟩
        refine ⟨_, rfl, _, rfl, pa, nl p, j, _, rfl, rfl, SqL.of (s _ _ hp2), atI_nat hpj, _, rfl, rfl, _, rfl, ?_⟩
        by_cases c : p.getD j 0 = d
        · refine if_true_of (decide_eq_true (by rw [c]; rfl)) ?_
          exact ⟨_, rfl, k2 _ (Same.refl _) (decide_eq_true c)⟩
        · refine if_false_of (int_ne (by omega)) ?_
          exact k1 _ (Same.refl _) (decide_eq_false c)
      · intro H3 s hH
        rw [nl_length, onUpTo_filter] at hH
        refine ⟨D, _, rfl, SqL.of (by rw [hH, nl_ints]), ?_⟩
        rw [sum_cast]
        have hra3 : H3 ra = some (.frz od (.dK (roomK F room))) := (sm.trans s) _ _ upd_same
        have hmem : d ∈ F := List.mem_of_getElem? hd
        refine ⟨_, rfl, _, rfl, ra, .int (room d : Int), rfl, .inl ⟨roomK F room, Sum.inl (d : Int), .inr ⟨od, hra3⟩, rfl, (valV_room hmem).symm⟩, _, _, rfl, rfl, _, rfl, ?_⟩
        by_cases c : room d < (onUpTo ls p d ls.length).sum
        · refine if_true_of (decide_eq_true (by omega)) ?_
          refine ⟨hra3, ?_⟩
          have e : fitsP F room ls p = false := by
            rw [Bool.eq_false_iff]
            intro z
            unfold fitsP at z
            rw [List.all_eq_true] at z
            have := of_decide_eq_true (z d hmem)
            omega
          have q := k _ (back H3 (sm.trans s))
          rw [e] at q
          exact q
        · refine if_false_of (decide_eq_false (by omega)) ?_
          refine ⟨sm.trans s, fun j d' hj hd' => ?_, _, rfl⟩
          by_cases e : j = i
          · subst e
            rw [hd] at hd'
            cases hd'
            omega
          · exact hall j d' (by omega) hd'
    · rintro σ H1 ⟨sm, hall, v0, rfl⟩
      refine ⟨sm _ _ upd_same, ?_⟩
      have e : fitsP F room ls p = true := by
        unfold fitsP
        rw [List.all_eq_true]
        intro d hd
        obtain ⟨j, hj, e⟩ := List.getElem_of_mem hd
        exact decide_eq_true (hall j d (by rw [roomK_length]; exact hj) (by rw [List.getElem?_eq_getElem hj, e]))
      have q := k _ (back H1 sm)
      rw [e] at q
      exact q
end
end Ld
/-! The best plan. -/
namespace Ld
open PySem PySem.Spec PyProof.Rows L2
def freesTo (m : Kp244.Yard) (i : Nat) : List Nat := (List.range i).filter fun d => Kp244.isFree (Kp244.drumAt m d)
theorem freesTo_all (m : Kp244.Yard) : freesTo m m.drums.length = frees m := rfl
theorem freesTo_lt {m : Kp244.Yard} {i d : Nat} (h : d ∈ freesTo m i) : d < i := List.mem_range.mp (List.mem_filter.mp h).1
theorem roomK_snoc (F : List Nat) (room : Nat → Nat) (d : Nat) : roomK (F ++ [d]) room = roomK F room ++ [(Sum.inl (d : Int), V.int (room d : Int))] := by
  unfold roomK
  rw [List.map_append]
  rfl
theorem made_snoc (F : List Nat) (room : Nat → Nat) (ls : List Nat) (l : Nat) : made F room (ls ++ [l]) = longer (made F room ls) (F.filter fun d => decide (l ≤ room d)) := by
  unfold made
  rw [List.foldl_append]
  rfl
theorem lex_better {m : Kp244.Yard} {p q : List Nat} (hp : ∀ d ∈ p, d < m.drums.length) (hq : ∀ d ∈ q, d < m.drums.length) :
    HT.lexLt [((takenP p).length : Int), (((takenP p).map fun d => (Kp244.drumAt m d).daily).sum : Nat)] [((takenP q).length : Int), (((takenP q).map fun d => (Kp244.drumAt m d).daily).sum : Nat)] = Kp244.better m p q := by
  rw [count_eq hp, count_eq hq, cost_eq hp, cost_eq hq]
  unfold Kp244.better
  rw [HT.lexLt_cons, HT.lexLt_cons]
  by_cases c : (Kp244.used m p).length = (Kp244.used m q).length
  · rw [c, if_pos rfl]
    have e1 : decide ((Kp244.used m q).length < (Kp244.used m q).length) = false := decide_eq_false (by omega)
    have e2 : ((Kp244.used m q).length == (Kp244.used m q).length) = true := by simp
    rw [e1, e2, Bool.false_or, Bool.true_and]
    by_cases c2 : Kp244.daily m p = Kp244.daily m q
    · rw [c2, if_pos rfl]
      exact (decide_eq_false (by omega)).symm
    · rw [if_neg (by omega)]
      exact decide_eq_decide.mpr (by omega)
  · rw [if_neg (by omega)]
    have e2 : ((Kp244.used m p).length == (Kp244.used m q).length) = false := by simp [c]
    rw [e2, Bool.false_and, Bool.or_false]
    exact decide_eq_decide.mpr (by omega)
/-- what stands in best and best_rank -/
def BestAt (m : Kp244.Yard) (H : Hp) (rk : Addr) (bV : V) : Option (List Nat) → Prop
  | none => bV = .non ∧ ∃ c d : Int, H rk = some (.tup [.int c, .int d])
  | some p => ∃ q, bV = .ref q ∧ H q = some (.lst (nl p)) ∧ (∀ d ∈ p, d < m.drums.length) ∧ H rk = some (.tup [ni (takenP p).length, ni ((takenP p).map fun d => (Kp244.drumAt m d).daily).sum])
theorem BestAt.same {m : Kp244.Yard} {H H' : Hp} {rk : Addr} {bV : V} {b : Option (List Nat)} (e : Same H H') (h : BestAt m H rk bV b) : BestAt m H' rk bV b := by
  cases b with
  | none =>
    obtain ⟨h1, c, d, h2⟩ := h
    exact ⟨h1, c, d, e _ _ h2⟩
  | some p =>
    obtain ⟨q, h1, h2, h3, h4⟩ := h
    exact ⟨q, h1, e _ _ h2, h3, e _ _ h4⟩
section
variable {P : Program} {w : World} {K : PySem.W.Frag} {mg : Str → Option Value} {base : Heap} {a : Ad}
theorem ok_best_plan (T : Txt K mg a) : FnOk P w K mg base CX0 3 a.f_best_plan a.fd_best_plan ["drums", "lengths", "thick"] (sp_best_plan a) := by
  refine T.d_best_plan.F.ok sc_best_plan (fun vs H Q E h => ?_) (fun cdv A outer s H vs Q E hr h => ⟨_, (pss_cons (ps_set (i := 3) sc_best_plan.nd rfl (Or.inr rfl) pe_dnewK)
      (pss_cons (ps_for PassesOwn.never rfl (pi_enum rfl T.b_enumerate (pa_cons (pv 0) pa_nil)) (pg_tup rfl (pgs_cons (pg_name (i := 4) sc_best_plan.nd rfl (Or.inl rfl)) (pgs_cons (pg_name (i := 5) sc_best_plan.nd rfl (Or.inl rfl)) pgs_nil)))
        (pss_one (ps_if (pt_cmpR op_isN (pe_fld (pv 5) rfl) pe_non (nomark _)) (pss_one (ps_dput (hu_of hr) (pv 3) (pv 4) (pe_meth (pv 5) T.cl_Drum T.m_Drum_metres (ok_Drum_metres T) (hr.mono (by decide)) T.d_Drum_metres.b .nil pass0 (pa_cons (pv 2) pa_nil)) rfl)) pss_nil)))
      (pss_cons (ps_set (i := 6) sc_best_plan.nd rfl (Or.inl rfl) (pe_lst (pa_cons (pe_lst pa_nil) pa_nil)))
      (pss_cons (ps_for PassesOwn.never rfl (pi_list (pv 1)) (pg_name (i := 7) sc_best_plan.nd rfl (Or.inr rfl))
        (pss_one (ps_set (i := 6) sc_best_plan.nd rfl (Or.inl rfl) (pe_call (ok_longer_plans T) (hr.mono (by decide)) rfl T.g_longer_plans T.d_longer_plans.F.kp T.d_longer_plans.b .nil pass0 (pa_cons (pv 6) (pa_cons (pe_lock (pe_lc (own := [("number", 4)]) (g := gName 4) rfl sc_best_plan.nd (pi_keys (pv 3)) (blkOk_by (own := [("number", 4)]) (N := ["drums", "lengths", "thick", "room", "number", "drum", "plans", "length", "best", "best_rank", "plan", "rank"]) (sc := defScope s_best_plan) (by decide +kernel)) (fun _ _ _ _ _ => (pg_name (i := 4) sc_best_plan.nd rfl (Or.inl rfl))) (fun _ _ _ _ _ => pts_one (pt_cmpR op_ge (pe_dget (hu_of hr) (pv 3) (pv 4) (fun _ _ => rfl)) (pv 7) (nomark _))) (fun _ _ _ _ _ => (pv 4)))) pa_nil))))))
      (pss_cons (ps_set (i := 8) sc_best_plan.nd rfl (Or.inl rfl) pe_non)
      (pss_cons (ps_set (i := 9) sc_best_plan.nd rfl (Or.inl rfl) (pe_tup (pa_cons pe_int (pa_cons pe_int pa_nil))))
      (pss_cons (ps_for PassesOwn.never rfl (pi_list (pv 6)) (pg_name (i := 10) sc_best_plan.nd rfl (Or.inl rfl))
        (pss_cons (ps_set (i := 11) sc_best_plan.nd rfl (Or.inl rfl) (pe_tup (pa_cons (pe_call (ok_drum_count T) (hr.mono (by decide)) rfl T.g_drum_count T.d_drum_count.F.kp T.d_drum_count.b .nil pass0 (pa_cons (pv 10) pa_nil)) (pa_cons (pe_call (ok_daily_cost T) (hr.mono (by decide)) rfl T.g_daily_cost T.d_daily_cost.F.kp T.d_daily_cost.b .nil pass0 (pa_cons (pv 0) (pa_cons (pv 10) pa_nil))) pa_nil))))
      (pss_one (ps_if (PW.pt (pw_and (PW.pt (pw_or (pt_cmpR op_isN (pv 8) pe_non (nomark _)) (pw_or1 (pt_cmpR (op_ltT hr.units0) (pv 11) (pv 9) (nomark _))))) (pw_and1 (pt_val (pe_call (ok_fits T) (hr.mono (by decide)) rfl T.g_fits T.d_fits.F.kp T.d_fits.b .nil pass0 (pa_cons (pv 10) (pa_cons (pv 1) (pa_cons (pv 3) pa_nil)))))))) (pss_cons (ps_set (i := 8) sc_best_plan.nd rfl (Or.inl rfl) (pv 10))
      (pss_one (ps_set (i := 9) sc_best_plan.nd rfl (Or.inl rfl) (pv 11)))) pss_nil))))
      (pss_one (ps_ret (pv 8)))))))))), ?_⟩)
  · obtain ⟨da, la, ds, m, ls, t, rfl, _⟩ := h
    rfl
  · obtain ⟨da, la, ds, m, ls, t, rfl, hda, hds, hgood, h6, hla, h5, ht, ht2, kN, kS⟩ := h
    have hF6 : (frees m).length ≤ 6 := Nat.le_trans (filter_range_le _ _) h6
    -- room = {}
    intro ra hra
    -- for number, drum in enumerate(drums)
    refine ⟨_, rfl, da, ds.map V.ref, rfl, SqL.of (same_upd hra _ _ hda), for_it (walk_enum (xs := ds.map V.ref)) (fun i σ H' => Same H H' ∧ H' ra = some (.dK (roomK (freesTo m i) (roomOf m t))) ∧
        ∃ v4 v5 : Option V, σ = [some (.ref da), some (.ref la), some (ni t), some (.ref ra), v4, v5, none, none, none, none, none, none])
      ⟨same_upd hra, upd_same, none, none, rfl⟩ (fun i σ H' _ h => SqL.of (h.1 _ _ hda)) ?_ ?_⟩
    · rintro i x σ H1 H2 hi ⟨sm, hroom, v4, v5, rfl⟩ y
      obtain ⟨s2, T', x1, z, rfl, hT, hx, hz⟩ := y_pair y
      cases hx
      obtain ⟨pd, hpd, rfl⟩ := refs_at hz
      rw [List.length_map, hds.1] at hi
      obtain ⟨pd', hpd', hdr⟩ := hds.get hi
      rw [hpd] at hpd'
      cases hpd'
      have hroom2 := s2 _ _ hroom
      have sm2 := sm.trans s2
      have hdr2 := hdr.same sm2
      obtain ⟨dx, s1, s3, hp, hlent⟩ := id hdr2
      have hg : GoodD (Kp244.drumAt m i) := by
        refine hgood _ ?_
        unfold Kp244.drumAt
        rw [List.getD_eq_getElem?_getD, List.getElem?_eq_getElem hi]
        exact List.getElem_mem hi
      refine ⟨T', _, rfl, SqT.of hT, rfl, _, _, rfl, _, _, rfl, rfl, ?_⟩
      refine ⟨_, rfl, pd, a.CD, dx, _, _, rfl, hp, T.cl_Drum, T.n_Drum_guest, dF_guest _ _ _ _, rfl, _, rfl, ?_⟩
      rw [guestV_free]
      by_cases c : Kp244.isFree (Kp244.drumAt m i) = true
      · refine if_true_of c ?_
        refine ⟨_, rfl, pd, dx, _, rfl, hp, dF_no _ _ _ _ (by decide +kernel), _, rfl, pd, _, t, rfl, hdr2, hg, ht, ht2, ?_⟩
        have hl : (roomK (freesTo m i) (roomOf m t)).length < sizeLine := by
          rw [roomK_length, sizeLine_eq]
          have := filter_range_le (fun d => Kp244.isFree (Kp244.drumAt m d)) i
          unfold freesTo
          omega
        refine ⟨_, rfl, _, rfl, ra, _, rfl, DPut.k (k := Sum.inl (i : Int)) hroom2 hl, fun b o e => ?_, ?_, _, _, rfl⟩
        · have hb : b ≠ ra := ne_of_none e hra
          rw [upd_ne hb]
          exact sm2 b o e
        · have hno : valV (roomK (freesTo m i) (roomOf m t)) (Sum.inl (i : Int)) = none := valV_room_none fun z => by
            have := freesTo_lt z
            omega
          rw [upd_same, putK_new _ hno]
          have e : freesTo m (i + 1) = freesTo m i ++ [i] := by
            unfold freesTo
            rw [filter_range_succ, if_pos c]
          rw [e, roomK_snoc]
          rfl
      · refine if_false_of (by simpa using c) ?_
        refine ⟨sm2, ?_, _, _, rfl⟩
        have e : freesTo m (i + 1) = freesTo m i := by
          unfold freesTo
          rw [filter_range_succ, if_neg c, List.append_nil]
        rw [e]
        exact hroom2
    rintro σ H1 ⟨sm1, hroom, v4, v5, rfl⟩
    rw [List.length_map, hds.1, freesTo_all] at hroom
    -- plans = [[]]
    refine ⟨Nat.zero_le _, fun q1 hq1 => ⟨(by show 1 ≤ sizeLine; decide), fun q2 hq2 => ?_⟩⟩
    have smq : Same H1 (upd (upd H1 q1 (.lst [])) q2 (.lst [.ref q1])) := (same_upd hq1).trans (same_upd hq2)
    -- for length in lengths
    refine ⟨_, rfl, la, rfl, ⟨_, SqL.of ((sm1.trans smq) _ _ hla)⟩, for_list (K := K) (a := la) (xs := nl ls) (fun i σ H' => Same H H' ∧ H' ra = some (.dK (roomK (frees m) (roomOf m t))) ∧
        ∃ (v4 v5 v7 : Option V) (pq : Addr) (as : List Addr), σ = [some (.ref da), some (.ref la), some (ni t), some (.ref ra), v4, v5, some (.ref pq), v7, none, none, none, none] ∧ H' pq = some (.lst (as.map V.ref)) ∧ PlansAt H' as (made (frees m) (roomOf m t) (ls.take i)))
      ⟨sm1.trans smq, smq _ _ hroom, v4, v5, none, q2, [q1], rfl, upd_same, rfl, ?_⟩ (fun i σ H' _ h => SqL.of (h.1 _ _ hla)) ?_ ?_⟩
    · intro i q p h1 h2
      cases i with
      | zero =>
        cases h1
        have e : p = [] := by
          have h2 : some ([] : List Nat) = some p := h2
          exact (Option.some.inj h2).symm
        rw [e]
        exact same_upd hq2 _ _ upd_same
      | succ i => cases h1
    · rintro i v σ H2 hi ⟨sm2, hroom2, v4, v5, v7, pq, as, rfl, hpq, hP⟩
      obtain ⟨l, hl, rfl⟩ := nl_at hi
      have hlt : i < ls.length := by
        rcases Nat.lt_or_ge i ls.length with z | z
        · exact z
        · rw [List.getElem?_eq_none z] at hl; cases hl
      refine ⟨_, rfl, ra, _, hroom2, trivial, fun od => ?_⟩
      refine ⟨_, rfl, ra, od, rfl, .inl ⟨_, upd_same, fun D hD => ?_⟩⟩
      refine lc_fun (walk_keys (d := ra) (o := od) (kvs := roomK (frees m) (roomOf m t))) (fun j v H' => j < (frees m).length ∧ v = .int ((frees m).getD j 0 : Nat)) (fun j => decide (l ≤ roomOf m t ((frees m).getD j 0))) (fun j => .int ((frees m).getD j 0 : Nat)) hD (by rw [roomK_length]; omega) (fun H' s => s _ _ upd_same) ?_ ?_ ?_
      · rintro j Ha v Hb hj s ⟨rfl, kk, vv, hkv, rfl⟩
        obtain ⟨d, hd, rfl⟩ := roomK_at hkv
        rw [roomK_length] at hj
        exact ⟨Same.refl _, hj, by rw [getD_of hd]; rfl⟩
      · rintro j v Ha N1 N2 hj s ⟨hj2, rfl⟩ k1 k2
        have hmem : (frees m).getD j 0 ∈ frees m := List.mem_of_getElem? (get_of hj2)
        refine ⟨rfl, _, rfl, _, rfl, ra, .int (roomOf m t ((frees m).getD j 0) : Nat), rfl, .inl ⟨_, Sum.inl ((frees m).getD j 0 : Int), .inr ⟨od, s _ _ upd_same⟩, rfl, (valV_room hmem).symm⟩, _, rfl, _, _, rfl, rfl, _, rfl, ?_⟩
        by_cases c : l ≤ roomOf m t ((frees m).getD j 0)
        · exact if_true_of (decide_eq_true (by omega)) ⟨_, rfl, k2 _ (Same.refl _) (decide_eq_true c)⟩
        · exact if_false_of (decide_eq_false (by omega)) (k1 _ (Same.refl _) (decide_eq_false c))
      · intro H3 s hH
        have hra3 := s _ _ upd_same
        refine ⟨hra3, ?_⟩
        have neD : D ≠ ra := fun e => by rw [e, upd_same] at hD; cases hD
        have back : Same H2 (upd H3 ra (.dK (roomK (frees m) (roomOf m t)))) := fun b o e => by
          by_cases hb : b = ra
          · subst hb
            rw [upd_same, ← e, hroom2]
          · rw [upd_ne hb]
            exact s b o (by rw [upd_ne hb]; exact e)
        rw [roomK_length] at hH
        have e1 := filter_range_getD (fun d => decide (l ≤ roomOf m t d)) (fun d => V.int (d : Int)) (frees m)
        rw [e1] at hH
        have hlen : ∀ p ∈ made (frees m) (roomOf m t) (ls.take i), p.length ≤ 10 := fun p hp => by
          rw [made_eq] at hp
          have := (pr_mem hp).1
          rw [List.length_take] at this
          omega
        have hcnt : (made (frees m) (roomOf m t) (ls.take i)).length ≤ 10000 := by
          rw [made_eq]
          have h1 := pr_length (F := frees m) (room := roomOf m t) hF6 (ls.take i)
          have h2 : 6 ^ (ls.take i).length ≤ 6 ^ 5 := Nat.pow_le_pow_right (by decide) (by rw [List.length_take]; omega)
          exact Nat.le_trans h1 (Nat.le_trans h2 (by decide))
        refine ⟨pq, D, as, _, (frees m).filter (fun d => decide (l ≤ roomOf m t d)), rfl, back _ _ hpq, hP.same back, ?_, hlen, hcnt, Nat.le_trans (List.length_filter_le _ _) (Nat.le_trans hF6 (by decide)), fun H4 q4 as4 s4 _ hq4 hP4 => ?_⟩
        · rw [upd_ne neD, hH]
          rfl
        · refine ⟨sm2.trans (back.trans s4), s4 _ _ upd_same, _, _, _, q4, as4, rfl, hq4, ?_⟩
          rw [take_more hl, made_snoc]
          exact hP4
    rintro σ H2 ⟨sm2, hroom2, v4, v5, v7, pq, as, rfl, hpq, hP⟩
    rw [nl_length, List.take_length] at hP
    -- best = None; best_rank = (0, 0)
    refine ⟨(by show 2 ≤ sizeLine; decide), fun r0 hr0 => ?_⟩
    -- for plan in plans
    refine ⟨_, rfl, pq, rfl, ⟨_, SqL.of (same_upd hr0 _ _ hpq)⟩, for_list (K := K) (a := pq) (xs := as.map V.ref) (fun i σ H' => Same H2 H' ∧
        ∃ (v10 v11 : Option V) (bV : V) (rk : Addr), σ = [some (.ref da), some (.ref la), some (ni t), some (.ref ra), v4, v5, some (.ref pq), v7, some bV, some (.ref rk), v10, v11] ∧
          BestAt m H' rk bV (((made (frees m) (roomOf m t) ls).take i).foldl (pick m (fitsP (frees m) (roomOf m t) ls)) none))
      ⟨same_upd hr0, none, none, .non, r0, rfl, rfl, 0, 0, upd_same⟩ (fun i σ H' _ h => SqL.of (h.1 _ _ hpq)) ?_ ?_⟩
    · rintro i v σ H3 hi ⟨sm3, v10, v11, bV, rk, rfl, hB⟩
      obtain ⟨qa, hqa, rfl⟩ := refs_at hi
      have hlt : i < (made (frees m) (roomOf m t) ls).length := by
        rw [← hP.1]
        rcases Nat.lt_or_ge i as.length with z | z
        · exact z
        · rw [List.getElem?_eq_none z] at hqa; cases hqa
      obtain ⟨p, hp⟩ : ∃ p, (made (frees m) (roomOf m t) ls)[i]? = some p := ⟨_, List.getElem?_eq_getElem hlt⟩
      have hplan := sm3 _ _ (hP.2 i qa p hqa hp)
      have hpm := List.mem_of_getElem? hp
      rw [made_eq] at hpm
      obtain ⟨hpl, hpd⟩ := pr_mem hpm
      have hplt : ∀ d ∈ p, d < m.drums.length := fun d hd => (mem_frees.mp (hpd d hd)).1
      have smH := sm2.trans sm3
      refine ⟨_, rfl, qa, p, rfl, hplan, by omega, fun H4 s4 => ?_⟩
      refine ⟨_, rfl, _, rfl, da, qa, ds, m, p, rfl, s4 _ _ (smH _ _ hda), (hds.same smH).same s4, s4 _ _ hplan, by omega, hplt, fun H5 s5 => ?_⟩
      refine ⟨(by show 2 ≤ sizeLine; decide), fun rk2 hrk2 => ?_⟩
      have s6 : Same H3 (upd H5 rk2 (.tup [ni (takenP p).length, ni ((takenP p).map fun d => (Kp244.drumAt m d).daily).sum])) := (s4.trans s5).trans (same_upd hrk2)
      have hB6 := hB.same s6
      have step : ((made (frees m) (roomOf m t) ls).take (i + 1)).foldl (pick m (fitsP (frees m) (roomOf m t) ls)) none = pick m (fitsP (frees m) (roomOf m t) ls) (((made (frees m) (roomOf m t) ls).take i).foldl (pick m (fitsP (frees m) (roomOf m t) ls)) none) p := by
        rw [take_more hp, List.foldl_append]
        rfl
      rw [step]
      generalize ((made (frees m) (roomOf m t) ls).take i).foldl (pick m (fitsP (frees m) (roomOf m t) ls)) none = b at hB hB6
      cases b with
      | none =>
        obtain ⟨rfl, c0, d0, hrk⟩ := hB6
        refine ⟨_, rfl, rfl, _, rfl, if_true_of rfl (if_true_of rfl ?_)⟩
        refine ⟨_, rfl, _, rfl, _, rfl, qa, la, ra, p, ls, frees m, roomOf m t, rfl, s6 _ _ hplan, s6 _ _ (smH _ _ hla), s6 _ _ (sm3 _ _ hroom2), hpl, by omega, fun H7 s7' => ⟨_, rfl, ?_⟩⟩
        have s7 := s6.trans s7'
        have hrk7 := s7' _ _ upd_same
        cases c : fitsP (frees m) (roomOf m t) ls p with
        | true =>
          refine if_true_of rfl ⟨_, rfl, _, rfl, sm3.trans s7, _, _, _, _, rfl, ?_⟩
          have e : pick m (fitsP (frees m) (roomOf m t) ls) none p = some p := if_pos c
          rw [e]
          exact ⟨qa, rfl, s7 _ _ hplan, hplt, hrk7⟩
        | false =>
          refine if_false_of rfl ⟨sm3.trans s7, _, _, _, _, rfl, ?_⟩
          have e : pick m (fitsP (frees m) (roomOf m t) ls) none p = none := if_neg (by rw [c]; decide)
          rw [e]
          exact hB.same s7
      | some q =>
        obtain ⟨qb, rfl, hqb, hqlt, hrk⟩ := hB6
        refine ⟨_, rfl, rfl, _, rfl, if_false_of rfl ?_⟩
        refine ⟨_, rfl, _, rfl, rk2, rk, [((takenP p).length : Int), (((takenP p).map fun d => (Kp244.drumAt m d).daily).sum : Nat)], [((takenP q).length : Int), (((takenP q).map fun d => (Kp244.drumAt m d).daily).sum : Nat)], rfl, rfl, SqT.of upd_same, SqT.of hrk, _, rfl, ?_⟩
        rw [lex_better hplt hqlt]
        cases c : Kp244.better m p q with
        | false =>
          refine if_false_of rfl ⟨sm3.trans s6, _, _, _, _, rfl, ?_⟩
          have e : pick m (fitsP (frees m) (roomOf m t) ls) (some q) p = some q := if_neg fun z => by
            rw [c] at z
            cases z.1
          rw [e]
          exact ⟨qb, rfl, hqb, hqlt, hrk⟩
        | true =>
          refine if_true_of rfl ?_
          refine ⟨_, rfl, _, rfl, _, rfl, qa, la, ra, p, ls, frees m, roomOf m t, rfl, s6 _ _ hplan, s6 _ _ (smH _ _ hla), s6 _ _ (sm3 _ _ hroom2), hpl, by omega, fun H7 s7' => ⟨_, rfl, ?_⟩⟩
          have s7 := s6.trans s7'
          have hrk7 := s7' _ _ upd_same
          cases c2 : fitsP (frees m) (roomOf m t) ls p with
          | true =>
            refine if_true_of rfl ⟨_, rfl, _, rfl, sm3.trans s7, _, _, _, _, rfl, ?_⟩
            have e : pick m (fitsP (frees m) (roomOf m t) ls) (some q) p = some p := if_pos ⟨c, c2⟩
            rw [e]
            exact ⟨qa, rfl, s7 _ _ hplan, hplt, hrk7⟩
          | false =>
            refine if_false_of rfl ⟨sm3.trans s7, _, _, _, _, rfl, ?_⟩
            have e : pick m (fitsP (frees m) (roomOf m t) ls) (some q) p = some q := if_neg fun z => by
              rw [c2] at z
              cases z.2
            rw [e]
            exact hB.same s7
    · rintro σ H3 ⟨sm3, v10, v11, bV, rk, rfl, hB⟩
      rw [List.length_map, hP.1, List.take_length] at hB
      have hbest : (made (frees m) (roomOf m t) ls).foldl (pick m (fitsP (frees m) (roomOf m t) ls)) none = bestP m t ls := rfl
      rw [hbest] at hB
      refine ⟨_, rfl, ?_⟩
      cases c : bestP m t ls with
      | none =>
        rw [c] at hB
        obtain ⟨rfl, _⟩ := hB
        exact kN H3 (sm2.trans sm3) c
      | some p =>
        rw [c] at hB
        obtain ⟨q, rfl, hq, _⟩ := hB
        exact kS H3 q p (sm2.trans sm3) c hq
end
end Ld
/-! The yard: what a call leaves, stores, refusals. -/
namespace Ld
open PySem PySem.Spec PyProof.Rows L2
/-- what is wanted where a call refuses -/
def Refuse (a : Ad) (H : Hp) (code : Int) (E : XK) : Prop := ∀ (H' : Hp) (d : Addr), Same H H' → H d = none → H' d = some (.xd [(("code" : Str), .int code)]) → E (.ref a.CR) (some d) H'
theorem Refuse.mono {a : Ad} {H H1 : Hp} {code : Int} {E : XK} (e : Same H H1) (h : Refuse a H code E) : Refuse a H1 code E := fun H' d s n hd => h H' d (e.trans s) (e.free n) hd
theorem Refuse.at {a : Ad} {H : Hp} {code : Int} {E : XK} (h : Refuse a H code E) {d : Addr} (hd : H d = none) : E (.ref a.CR) (some d) (upd H d (.xd [(("code" : Str), .int code)])) := h _ d (same_upd hd) hd upd_same
structure Keep (s s' : YS) (H H' : Hp) : Prop where
  y : s'.y = s.y
  old : ∀ b o, H b = some o → ¬ Own s b → H' b = some o
  own : ∀ b, Own s' b → Own s b ∨ H b = none
theorem Keep.same {s : YS} {H H' : Hp} (e : Same H H') : Keep s s H H' := ⟨rfl, fun b o q _ => e b o q, fun _ h => .inl h⟩
/-- a call's answer by the specification's step: refused, or the list that's due, the yard behind it -/
def Ans1 (a : Ad) (H : Hp) (s : YS) (m : Kp244.Yard) (r : Kp244.State × Kp244.Ans) (Q : VK) (E : XK) : Prop :=
  (∀ code : Int, code < 0 → r = (some m, Kp244.say code) → Refuse a H code E) ∧
  ∀ (m' : Kp244.Yard) (s' : YS) (H' : Hp) (q : Addr) (ans : Kp244.Ans), r = (some m', ans) → 0 ≤ ans.num → Keep s s' H H' → YardAt a H' s' m' → H q = none → H' q = some (.lst ((ans.num :: ans.nums).map V.int)) → Q (.ref q) H'
/-! ### unlike objects -/
theorem yF_ne_gF {m : Kp244.Yard} {dl gl : Addr} {g : Kp244.Guest} : yF m dl gl ≠ gF g := fun e => by
  have h := (Prod.mk.inj (List.cons.inj e).1).1
  exact absurd h (by decide +kernel)
theorem yF_ne_dF {m : Kp244.Yard} {dl gl : Addr} {x : Kp244.Drum} {v : V} {s t : Nat} : yF m dl gl ≠ dF x v s t := fun e => by
  have h := (Prod.mk.inj (List.cons.inj e).1).1
  exact absurd h (by decide +kernel)
theorem dF_ne_gF {g : Kp244.Guest} {x : Kp244.Drum} {v : V} {s t : Nat} : dF x v s t ≠ gF g := fun e => by
  have h := (Prod.mk.inj (List.cons.inj e).1).1
  exact absurd h (by decide +kernel)
theorem ins_ne {C dx : Addr} {fs : List (Str × V)} {C' dx' : Addr} {fs' : List (Str × V)} (h : fs ≠ fs') : HO.ins C dx fs ≠ HO.ins C' dx' fs' := fun e => by
  injection e with _ _ e
  exact h e
theorem lst_ne {C dx : Addr} {fs : List (Str × V)} {xs : List V} : HO.lst xs ≠ HO.ins C dx fs := fun e => by cases e
theorem nd_ne {l : List Addr} (hN : l.Nodup) {i j : Nat} {x y : Addr} (a : l[i]? = some x) (b : l[j]? = some y) (h : i ≠ j) : x ≠ y := fun e => by
  subst e
  exact h (nd_ix hN a b)
/-! ### stores -/
section
variable {a : Ad} {H : Hp} {s : YS} {m : Kp244.Yard}
/-- a guest's attributes are stored -/
theorem YardAt.setGuest (h : YardAt a H s m) {j : Nat} {gp dx : Addr} {g' : Kp244.Guest} (hj : s.gs[j]? = some gp) (hlt : j < m.guests.length) :
    YardAt a (upd H gp (.ins a.CG dx (gF g'))) s (Kp244.setGuest m j g') := by
  obtain ⟨gx, hg⟩ : ∃ gx, GuestAt a.CG H gp gx := ⟨_, h.guests.2 j gp _ hj (List.getElem?_eq_getElem hlt)⟩
  obtain ⟨dx0, hg⟩ := hg
  obtain ⟨⟨dy, hy⟩, h2, h3, h4, h5, h6, h7, h8⟩ := h
  have ky : s.y ≠ gp := ne_of hy hg (ins_ne yF_ne_gF)
  refine ⟨⟨dy, ?_⟩, ?_, ?_, ⟨h4.1, fun i p x e1 e2 => ?_⟩, ⟨?_, fun i p x e1 e2 => ?_⟩, h6, h7, h8⟩
  · rw [upd_ne ky]; exact hy
  · rw [upd_ne (ne_of h2 hg lst_ne)]; exact h2
  · rw [upd_ne (ne_of h3 hg lst_ne)]; exact h3
  · obtain ⟨d, t1, t2, q, r⟩ := h4.2 i p x e1 e2
    exact ⟨d, t1, t2, by rw [upd_ne (ne_of q hg (ins_ne dF_ne_gF))]; exact q, r⟩
  · show s.gs.length = (m.guests.set j g').length
    rw [List.length_set]
    exact h5.1
  · have e2 : (m.guests.set j g')[i]? = some x := e2
    by_cases hi : i = j
    · subst hi
      rw [hj] at e1
      cases e1
      rw [List.getElem?_set_self hlt] at e2
      cases e2
      exact ⟨dx, upd_same⟩
    · rw [List.getElem?_set_ne (Ne.symm hi)] at e2
      obtain ⟨d, q⟩ := h5.2 i p x e1 e2
      exact ⟨d, by rw [upd_ne (nd_ne h7 e1 hj hi)]; exact q⟩
/-- a drum's attributes are stored -/
theorem YardAt.setDrum (h : YardAt a H s m) {j : Nat} {p : Addr} {o : HO} {x' : Kp244.Drum} (hj : s.ds[j]? = some p) (hlt : j < m.drums.length) (hx : DrumAt a.CD (upd H p o) p x') :
    YardAt a (upd H p o) s (Kp244.setDrum m j x') := by
  obtain ⟨gx, hg⟩ : ∃ gx, DrumAt a.CD H p gx := ⟨_, h.drums.2 j p _ hj (List.getElem?_eq_getElem hlt)⟩
  obtain ⟨dx0, t1, t2, hg, _⟩ := hg
  obtain ⟨⟨dy, hy⟩, h2, h3, h4, h5, h6, h7, h8⟩ := h
  refine ⟨⟨dy, ?_⟩, ?_, ?_, ⟨?_, fun i q x e1 e2 => ?_⟩, ⟨h5.1, fun i q x e1 e2 => ?_⟩, h6, h7, h8⟩
  · rw [upd_ne (ne_of hy hg (ins_ne yF_ne_dF))]; exact hy
  · rw [upd_ne (ne_of h2 hg lst_ne)]; exact h2
  · rw [upd_ne (ne_of h3 hg lst_ne)]; exact h3
  · show s.ds.length = (m.drums.set j x').length
    rw [List.length_set]
    exact h4.1
  · have e2 : (m.drums.set j x')[i]? = some x := e2
    by_cases hi : i = j
    · subst hi
      rw [hj] at e1
      cases e1
      rw [List.getElem?_set_self hlt] at e2
      cases e2
      exact hx
    · rw [List.getElem?_set_ne (Ne.symm hi)] at e2
      obtain ⟨d, t3, t4, q2, r⟩ := h4.2 i q x e1 e2
      exact ⟨d, t3, t4, by rw [upd_ne (nd_ne h6 e1 hj hi)]; exact q2, r⟩
  · obtain ⟨d, q2⟩ := h5.2 i q x e1 e2
    exact ⟨d, by rw [upd_ne (ne_of q2 hg (ins_ne fun e => dF_ne_gF e.symm))]; exact q2⟩
/-- the yard's own attributes are stored -/
theorem YardAt.setYard (h : YardAt a H s m) {dx : Addr} {m' : Kp244.Yard} (e1 : m'.drums = m.drums) (e2 : m'.guests = m.guests) :
    YardAt a (upd H s.y (.ins a.CY dx (yF m' s.dl s.gl))) s m' := by
  obtain ⟨⟨dy, hy⟩, h2, h3, h4, h5, h6, h7, h8⟩ := h
  refine ⟨⟨dx, upd_same⟩, ?_, ?_, ⟨by rw [e1]; exact h4.1, fun i p x q1 q2 => ?_⟩, ⟨by rw [e2]; exact h5.1, fun i p x q1 q2 => ?_⟩, h6, h7, h8⟩
  · rw [upd_ne (ne_of h2 hy lst_ne)]; exact h2
  · rw [upd_ne (ne_of h3 hy lst_ne)]; exact h3
  · rw [e1] at q2
    obtain ⟨d, t1, t2, q, r⟩ := h4.2 i p x q1 q2
    exact ⟨d, t1, t2, by rw [upd_ne (ne_of q hy (ins_ne fun e => yF_ne_dF e.symm))]; exact q, r⟩
  · rw [e2] at q2
    obtain ⟨d, q⟩ := h5.2 i p x q1 q2
    exact ⟨d, by rw [upd_ne (ne_of q hy (ins_ne fun e => yF_ne_gF e.symm))]; exact q⟩
/-- what isn't in the heap (what's pledged) may be told anew -/
theorem YardAt.pledged (h : YardAt a H s m) {m' : Kp244.Yard} (e0 : m'.day = m.day) (e1 : m'.free = m.free) (e2 : m'.kept = m.kept) (e3 : m'.drums = m.drums) (e4 : m'.guests.length = m.guests.length)
    (e5 : ∀ (i : Nat) (g g' : Kp244.Guest), m.guests[i]? = some g → m'.guests[i]? = some g' → g'.owed = g.owed ∧ g'.paid = g.paid) : YardAt a H s m' := by
  obtain ⟨⟨dy, hy⟩, h2, h3, h4, h5, h6, h7, h8⟩ := h
  refine ⟨⟨dy, ?_⟩, h2, h3, by rw [e3]; exact h4, ⟨by rw [e4]; exact h5.1, fun i p x q1 q2 => ?_⟩, h6, h7, h8⟩
  · rw [hy]
    unfold yF
    rw [e0, e1, e2]
  · have hlt : i < m.guests.length := by
      rw [← e4]
      rcases Nat.lt_or_ge i m'.guests.length with z | z
      · exact z
      · rw [List.getElem?_eq_none z] at q2; cases q2
    obtain ⟨e6, e7⟩ := e5 i _ x (List.getElem?_eq_getElem hlt) q2
    obtain ⟨d, q⟩ := h5.2 i p _ q1 (List.getElem?_eq_getElem hlt)
    refine ⟨d, ?_⟩
    rw [q]
    unfold gF
    rw [e6, e7]
end
end Ld
/-! The yard's small methods. -/
namespace Ld
open PySem PySem.Spec PyProof.Rows L2
def sp_need (a : Ad) : Sp := fun vs H Q E => ∃ (b : Bool) (code : Int), vs = [.bl b, .int code] ∧ (b = true → Q .non H) ∧ (b = false → Refuse a H code E)
def sp_told_list (a : Ad) : Sp := fun vs H Q _ => ∃ (l : Addr) (ns : List Nat), vs = [.ref l] ∧ H l = some (.lst (nl ns)) ∧ ns.length ≤ 1000 ∧ ∀ H' q, Same H H' → H q = none → H' q = some (.lst (nl (ns.length :: ns))) → Q (.ref q) H'
def sp_Guest_init (a : Ad) : Sp := fun vs H Q _ => ∃ (p dx : Addr), vs = [.ref p] ∧ H p = some (.ins a.CG dx []) ∧ ∀ H', GuestAt a.CG H' p ⟨0, 0, 0⟩ → (∀ b o, H b = some o → b ≠ p → H' b = some o) → Q .non H'
def sp_Desk_init (a : Ad) : Sp := fun vs H Q _ => ∃ (p dx : Addr), vs = [.ref p] ∧ H p = some (.ins a.CK dx []) ∧ ∀ H', H' p = some (.ins a.CK dx [("yard", .non)]) → (∀ b o, H b = some o → b ≠ p → H' b = some o) → Q .non H'
def sp_Yard_init (a : Ad) : Sp := fun vs H Q _ => ∃ (p dx : Addr) (f : Nat), vs = [.ref p, ni f] ∧ H p = some (.ins a.CY dx []) ∧
  ∀ H' dl gl, YardAt a H' ⟨p, dl, gl, [], []⟩ ⟨0, f, [], [], 0⟩ → (∀ b o, H b = some o → b ≠ p → H' b = some o) → H dl = none → H gl = none → Q .non H'
def sp_Yard_drum_at (a : Ad) : Sp := fun vs H Q E => ∃ (s : YS) (m : Kp244.Yard) (n : Nat), vs = [.ref s.y, ni n] ∧ YardAt a H s m ∧ (∀ p, n < m.drums.length → s.ds[n]? = some p → Q (.ref p) H) ∧ (¬ n < m.drums.length → Refuse a H (-2) E)
def sp_Yard_lent_drum (a : Ad) : Sp := fun vs H Q E => ∃ (s : YS) (m : Kp244.Yard) (n : Nat), vs = [.ref s.y, ni n] ∧ YardAt a H s m ∧ (∀ p z, n < m.drums.length → s.ds[n]? = some p → (Kp244.drumAt m n).lent = some z → Q (.ref p) H) ∧
  (¬ n < m.drums.length → Refuse a H (-2) E) ∧ (n < m.drums.length → (Kp244.drumAt m n).lent = none → Refuse a H (-6) E)
def sp_Yard_guest_at (a : Ad) : Sp := fun vs H Q E => ∃ (s : YS) (m : Kp244.Yard) (n : Nat), vs = [.ref s.y, ni n] ∧ YardAt a H s m ∧ (∀ p, n < m.guests.length → s.gs[n]? = some p → Q (.ref p) H) ∧ (¬ n < m.guests.length → Refuse a H (-2) E)
def sp_Yard_need_thick (a : Ad) : Sp := fun vs H Q E => ∃ (y : V) (t : Nat), vs = [y, ni t] ∧ (1 ≤ t ∧ t ≤ 200 → Q .non H) ∧ (¬ (1 ≤ t ∧ t ≤ 200) → Refuse a H (-22) E)
def sp_Yard_free_drums (a : Ad) : Sp := fun vs H Q _ => ∃ (s : YS) (m : Kp244.Yard), vs = [.ref s.y] ∧ YardAt a H s m ∧ YardOk m ∧ ∀ H' q, Same H H' → H' q = some (.lst (nl (frees m))) → Q (.ref q) H'
def sp_Yard_lent_to (a : Ad) : Sp := fun vs H Q _ => ∃ (s : YS) (m : Kp244.Yard) (g : Nat), vs = [.ref s.y, ni g] ∧ YardAt a H s m ∧ YardOk m ∧ ∀ H' q, Same H H' → H' q = some (.lst (nl (Kp244.lentTo m g))) → Q (.ref q) H'
def sp_Yard_late_drums (a : Ad) : Sp := fun vs H Q _ => ∃ (s : YS) (m : Kp244.Yard), vs = [.ref s.y] ∧ YardAt a H s m ∧ YardOk m ∧ ∀ H' q, Same H H' → H' q = some (.lst (nl (Kp244.late m))) → Q (.ref q) H'
def sp_Yard_charge (a : Ad) : Sp := fun vs H Q _ => ∃ (s : YS) (m : Kp244.Yard) (i : Nat) (p : Addr) (z : Nat × Nat × Nat), vs = [.ref s.y, .ref p] ∧ YardAt a H s m ∧ YardOk m ∧ s.ds[i]? = some p ∧ i < m.drums.length ∧ (Kp244.drumAt m i).lent = some z ∧
  ∀ H', YardAt a H' s (Kp244.setGuest m z.1 { Kp244.guestAt m z.1 with owed := (Kp244.guestAt m z.1).owed + Kp244.charge m (Kp244.drumAt m i) z.2.1 }) → (∀ b o, H b = some o → b ∉ s.gs → H' b = some o) → Q (ni (Kp244.charge m (Kp244.drumAt m i) z.2.1)) H'
theorem guestV_eq (x : Kp244.Drum) (g : Nat) : scal (guestV x) (.int (g : Int)) = true ∧ decide (guestV x = .int (g : Int)) = lentB g x := by
  unfold guestV lentB
  cases x.lent with
  | none => exact ⟨rfl, rfl⟩
  | some z =>
    refine ⟨rfl, ?_⟩
    show decide (V.int (z.1 : Int) = V.int (g : Int)) = (z.1 == g)
    by_cases c : z.1 = g
    · rw [c, int_eq]
      simp
    · rw [int_ne (by omega)]
      simp [c]
def lateB (m : Kp244.Yard) (x : Kp244.Drum) : Bool := match x.lent with
  | some z => decide (z.2.2 < m.day)
  | none => false
section
variable {P : Program} {w : World} {K : PySem.W.Frag} {mg : Str → Option Value} {base : Heap} {a : Ad}
theorem ok_need (T : Txt K mg a) : FnOk P w K mg base (L2.CX P w) 3 a.f_need a.fd_need ["holds", "code"] (sp_need a) := by
  refine T.d_need.F.okX sc_need (fun vs H Q E h => ?_) (fun cdv A outer s H vs Q E hr h => ⟨_, (pss_one (ps_if (pt_not (pt_val (pv 0))) (pss_one (ps_raiseLow rfl T.low hr (takes_of rfl rfl rfl rfl) (by exact (pa_cons (pv 1) pa_nil)))) pss_nil)), ?_⟩)
  · obtain ⟨b, code, rfl, _⟩ := h
    rfl
  · obtain ⟨b, code, rfl, kT, kF⟩ := h
    refine ⟨_, rfl, b, rfl, ?_⟩
    cases b with
    | true => exact if_false_of rfl (kT rfl)
    | false => exact if_true_of rfl ⟨_, rfl, _, rfl, fun d hd => (kF rfl).at hd⟩
theorem ok_told_list (T : Txt K mg a) : FnOk P w K mg base CX0 1 a.f_told_list a.fd_told_list ["numbers"] (sp_told_list a) := by
  refine T.d_told_list.F.ok sc_told_list (fun vs H Q E h => ?_) (fun cdv A outer s H vs Q E hr h => ⟨_, (pss_one (ps_ret (pe_op op_cat (pe_lst (pa_cons (pe_callB call_len_seq (by rfl) T.b_len PySem.boot_len (pa_cons (pv 0) pa_nil)) pa_nil)) (pv 0)))), ?_⟩)
  · obtain ⟨l, ns, rfl, _⟩ := h
    rfl
  · obtain ⟨l, ns, rfl, hl, hlen, k⟩ := h
    refine ⟨_, rfl, l, _, rfl, .inl (SqL.of hl), (by show 1 ≤ sizeLine; decide), fun q1 hq1 => ⟨_, rfl, q1, l, _, _, rfl, rfl, upd_same, same_upd hq1 _ _ hl, ?_, fun q hq => ?_⟩⟩
    · rw [nl_length, sizeLine_eq]
      show 1 + ns.length ≤ _
      omega
    · refine k _ q ((same_upd hq1).trans (same_upd hq)) ((same_upd hq1).free hq) ?_
      rw [upd_same, nl_length]
      rfl
theorem ok_Guest_init (T : Txt K mg a) : FnOk P w K mg base CX0 1 a.f_Guest_init a.fd_Guest_init ["self"] (sp_Guest_init a) := by
  refine T.d_Guest_init.F.ok sc_Guest_init (fun vs H Q E h => ?_) (fun cdv A outer s H vs Q E hr h => ⟨_, (pss_cons (ps_fld (pv 0) pe_int rfl)
      (pss_one (ps_fld (pv 0) pe_int rfl))), ?_⟩)
  · obtain ⟨p, dx, rfl, _⟩ := h
    rfl
  · obtain ⟨p, dx, rfl, hp, k⟩ := h
    refine ⟨_, rfl, p, a.CG, dx, [], rfl, hp, T.cl_Guest, T.n_Guest_owed, (by show 0 < 1000; decide), ?_⟩
    refine ⟨_, rfl, p, a.CG, dx, _, rfl, upd_same, T.cl_Guest, T.n_Guest_paid, (by show 1 < 1000; decide), ?_⟩
    refine k _ ⟨dx, Eq.trans upd_same (congrArg (fun q => some (HO.ins a.CG dx q)) ?_)⟩ fun b o e hb => ?_
    · exact (put_past (by decide +kernel)).trans rfl
    · rw [upd_ne hb, upd_ne hb]
      exact e
theorem ok_Desk_init (T : Txt K mg a) : FnOk P w K mg base CX0 1 a.f_Desk_init a.fd_Desk_init ["self"] (sp_Desk_init a) := by
  refine T.d_Desk_init.F.ok sc_Desk_init (fun vs H Q E h => ?_) (fun cdv A outer s H vs Q E hr h => ⟨_, (pss_one (ps_fld (pv 0) pe_non rfl)), ?_⟩)
  · obtain ⟨p, dx, rfl, _⟩ := h
    rfl
  · obtain ⟨p, dx, rfl, hp, k⟩ := h
    refine ⟨_, rfl, p, a.CK, dx, [], rfl, hp, T.cl_Desk, T.n_Desk_yard, (by show 0 < 1000; decide), ?_⟩
    refine k _ upd_same fun b o e hb => ?_
    rw [upd_ne hb]
    exact e
theorem ok_Yard_init (T : Txt K mg a) : FnOk P w K mg base CX0 1 a.f_Yard_init a.fd_Yard_init ["self", "free_days"] (sp_Yard_init a) := by
  refine T.d_Yard_init.F.ok sc_Yard_init (fun vs H Q E h => ?_) (fun cdv A outer s H vs Q E hr h => ⟨_, (pss_cons (ps_fld (pv 0) (pv 1) rfl)
      (pss_cons (ps_fld (pv 0) (pe_lst pa_nil) rfl)
      (pss_cons (ps_fld (pv 0) (pe_lst pa_nil) rfl)
      (pss_cons (ps_fld (pv 0) pe_int rfl)
      (pss_one (ps_fld (pv 0) pe_int rfl)))))), ?_⟩)
  · obtain ⟨p, dx, f, rfl, _⟩ := h
    rfl
  · obtain ⟨p, dx, f, rfl, hp, k⟩ := h
    refine ⟨_, rfl, _, rfl, p, a.CY, dx, [], rfl, hp, T.cl_Yard, T.n_Yard_free_days, (by show 0 < 1000; decide), ?_⟩
    refine ⟨Nat.zero_le _, fun dl hdl => ⟨_, rfl, p, a.CY, dx, _, rfl, same_upd hdl _ _ upd_same, T.cl_Yard, T.n_Yard_drums, (by show 1 < 1000; decide), ?_⟩⟩
    have n1 : dl ≠ p := fun e => by rw [e, upd_same] at hdl; cases hdl
    refine ⟨Nat.zero_le _, fun gl hgl => ⟨_, rfl, p, a.CY, dx, _, rfl, same_upd hgl _ _ upd_same, T.cl_Yard, T.n_Yard_guests, (by show 2 < 1000; decide), ?_⟩⟩
    have n2 : gl ≠ p := fun e => by rw [e, upd_same] at hgl; cases hgl
    have n3 : gl ≠ dl := fun e => by rw [e, upd_ne n1, upd_same] at hgl; cases hgl
    refine ⟨_, rfl, p, a.CY, dx, _, rfl, upd_same, T.cl_Yard, T.n_Yard_today, (by show 3 < 1000; decide), ?_⟩
    refine ⟨_, rfl, p, a.CY, dx, _, rfl, upd_same, T.cl_Yard, T.n_Yard_kept, (by show 4 < 1000; decide), ?_⟩
    rw [upd_ne n1] at hdl
    rw [upd_ne n2, upd_ne n3, upd_ne n2] at hgl
    refine k _ dl gl ⟨⟨dx, Eq.trans upd_same (congrArg (fun q => some (HO.ins a.CY dx q)) ?_)⟩, ?_, ?_, ⟨rfl, fun i p x h => by cases h⟩, ⟨rfl, fun i p x h => by cases h⟩, List.nodup_nil, List.nodup_nil, Ne.symm n3⟩ (fun b o e hb => ?_) hdl hgl
    · repeat (first | exact rfl | refine (put_past (by decide +kernel)).trans (congrArg _ ?_))
    · rw [upd_ne n1, upd_ne n1, upd_ne n1, upd_ne (Ne.symm n3), upd_ne n1, upd_same]
      rfl
    · rw [upd_ne n2, upd_ne n2, upd_ne n2, upd_same]
      rfl
    · have m1 : b ≠ dl := ne_of_none e hdl
      have m2 : b ≠ gl := ne_of_none e hgl
      rw [upd_ne hb, upd_ne hb, upd_ne hb, upd_ne m2, upd_ne hb, upd_ne m1, upd_ne hb]
      exact e
theorem ok_Yard_drum_at (T : Txt K mg a) : FnOk P w K mg base (L2.CX P w) 4 a.f_Yard_drum_at a.fd_Yard_drum_at ["self", "number"] (sp_Yard_drum_at a) := by
  refine T.d_Yard_drum_at.F.okX sc_Yard_drum_at (fun vs H Q E h => ?_) (fun cdv A outer s H vs Q E hr h => ⟨_, (pss_cons (ps_expr (pe_call (ok_need T) (hr.mono (by decide)) rfl T.g_need T.d_need.F.kp T.d_need.b .nil (passes_call (takes_of rfl rfl rfl rfl) (fun _ _ _ _ h => h)) (pa_cons (pe_cmpR op_lt (pv 1) (pe_callB call_len_seq (by rfl) T.b_len PySem.boot_len (pa_cons (pe_fld (pv 0) rfl) pa_nil)) (nomark _)) (pa_cons (pe_cst T.c_NOT_THERE) pa_nil))))
      (pss_one (ps_ret (pe_ix ix_list (pe_fld (pv 0) rfl) (pv 1) (fun _ _ => rfl))))), ?_⟩)
  · obtain ⟨s, m, n, rfl, _⟩ := h
    rfl
  · obtain ⟨s', m, n, rfl, hy, kS, kN⟩ := h
    obtain ⟨dx, hyd⟩ := hy.yard
    have hl : (s'.ds.map V.ref).length = m.drums.length := by rw [List.length_map, hy.drums.1]
    refine ⟨_, rfl, _, rfl, s'.y, a.CY, dx, _, _, rfl, hyd, T.cl_Yard, T.n_Yard_drums, yF_drums _ _ _, s'.dl, _, rfl, .inl (SqL.of hy.dl), _, _, rfl, rfl, _, _, rfl, fun hb => ?_, fun hb => kN ?_⟩
    · have hn : n < m.drums.length := by
        have := of_decide_eq_true hb
        rw [hl] at this
        omega
      obtain ⟨p, hp, _⟩ := hy.drums.get hn
      exact ⟨_, rfl, s'.y, a.CY, dx, _, _, rfl, hyd, T.cl_Yard, T.n_Yard_drums, yF_drums _ _ _, _, rfl, s'.dl, _, _, _, rfl, rfl, SqL.of hy.dl, atI_nat (by rw [List.getElem?_map, hp]; rfl), kS p hn hp⟩
    · have := of_decide_eq_false hb
      rw [hl] at this
      omega
theorem ok_Yard_lent_drum (T : Txt K mg a) : FnOk P w K mg base (L2.CX P w) 5 a.f_Yard_lent_drum a.fd_Yard_lent_drum ["self", "number"] (sp_Yard_lent_drum a) := by
  refine T.d_Yard_lent_drum.F.okX sc_Yard_lent_drum (fun vs H Q E h => ?_) (fun cdv A outer s H vs Q E hr h => ⟨_, (pss_cons (ps_set (i := 2) sc_Yard_lent_drum.nd rfl (Or.inl rfl) (pe_meth (pv 0) T.cl_Yard T.m_Yard_drum_at (ok_Yard_drum_at T) (hr.mono (by decide)) T.d_Yard_drum_at.b .nil (passes_call (takes_of rfl rfl rfl rfl) (fun _ _ _ _ h => h)) (pa_cons (pv 1) pa_nil)))
      (pss_cons (ps_expr (pe_call (ok_need T) (hr.mono (by decide)) rfl T.g_need T.d_need.F.kp T.d_need.b .nil (passes_call (takes_of rfl rfl rfl rfl) (fun _ _ _ _ h => h)) (pa_cons (pe_cmpR op_notN (pe_fld (pv 2) rfl) pe_non (nomark _)) (pa_cons (pe_cst T.c_NOT_LENT) pa_nil))))
      (pss_one (ps_ret (pv 2))))), ?_⟩)
  · obtain ⟨s, m, n, rfl, _⟩ := h
    rfl
  · obtain ⟨s', m, n, rfl, hy, kS, kN, k6⟩ := h
    obtain ⟨dx, hyd⟩ := hy.yard
    refine ⟨_, rfl, s'.y, dx, _, rfl, hyd, yF_no _ _ _ (by decide +kernel), _, rfl, s', m, n, rfl, hy, fun p hn hp => ?_, kN⟩
    obtain ⟨p', hp', dd, s1, s2, hd, hl⟩ := hy.drums.get hn
    rw [hp] at hp'
    cases hp'
    refine ⟨_, rfl, p, a.CD, dd, _, _, rfl, hd, T.cl_Drum, T.n_Drum_guest, dF_guest _ _ _ _, rfl, _, _, rfl, fun hb => ?_, fun hb => ?_⟩
    · cases c : (Kp244.drumAt m n).lent with
      | none =>
        rw [guestV_free] at hb
        unfold Kp244.isFree at hb
        rw [c] at hb
        cases hb
      | some z => exact ⟨_, rfl, kS p z hn hp c⟩
    · cases c : (Kp244.drumAt m n).lent with
      | none => exact k6 hn c
      | some z =>
        rw [guestV_free] at hb
        unfold Kp244.isFree at hb
        rw [c] at hb
        cases hb
theorem ok_Yard_guest_at (T : Txt K mg a) : FnOk P w K mg base (L2.CX P w) 4 a.f_Yard_guest_at a.fd_Yard_guest_at ["self", "number"] (sp_Yard_guest_at a) := by
  refine T.d_Yard_guest_at.F.okX sc_Yard_guest_at (fun vs H Q E h => ?_) (fun cdv A outer s H vs Q E hr h => ⟨_, (pss_cons (ps_expr (pe_call (ok_need T) (hr.mono (by decide)) rfl T.g_need T.d_need.F.kp T.d_need.b .nil (passes_call (takes_of rfl rfl rfl rfl) (fun _ _ _ _ h => h)) (pa_cons (pe_cmpR op_lt (pv 1) (pe_callB call_len_seq (by rfl) T.b_len PySem.boot_len (pa_cons (pe_fld (pv 0) rfl) pa_nil)) (nomark _)) (pa_cons (pe_cst T.c_NOT_THERE) pa_nil))))
      (pss_one (ps_ret (pe_ix ix_list (pe_fld (pv 0) rfl) (pv 1) (fun _ _ => rfl))))), ?_⟩)
  · obtain ⟨s, m, n, rfl, _⟩ := h
    rfl
  · obtain ⟨s', m, n, rfl, hy, kS, kN⟩ := h
    obtain ⟨dx, hyd⟩ := hy.yard
    have hl : (s'.gs.map V.ref).length = m.guests.length := by rw [List.length_map, hy.guests.1]
    refine ⟨_, rfl, _, rfl, s'.y, a.CY, dx, _, _, rfl, hyd, T.cl_Yard, T.n_Yard_guests, yF_guests _ _ _, s'.gl, _, rfl, .inl (SqL.of hy.gl), _, _, rfl, rfl, _, _, rfl, fun hb => ?_, fun hb => kN ?_⟩
    · have hn : n < m.guests.length := by
        have := of_decide_eq_true hb
        rw [hl] at this
        omega
      obtain ⟨p, hp, _⟩ := hy.guests.get hn
      exact ⟨_, rfl, s'.y, a.CY, dx, _, _, rfl, hyd, T.cl_Yard, T.n_Yard_guests, yF_guests _ _ _, _, rfl, s'.gl, _, _, _, rfl, rfl, SqL.of hy.gl, atI_nat (by rw [List.getElem?_map, hp]; rfl), kS p hn hp⟩
    · have := of_decide_eq_false hb
      rw [hl] at this
      omega
theorem ok_Yard_need_thick (T : Txt K mg a) : FnOk P w K mg base (L2.CX P w) 4 a.f_Yard_need_thick a.fd_Yard_need_thick ["self", "thick"] (sp_Yard_need_thick a) := by
  refine T.d_Yard_need_thick.F.okX sc_Yard_need_thick (fun vs H Q E h => ?_) (fun cdv A outer s H vs Q E hr h => ⟨_, (pss_one (ps_expr (pe_call (ok_need T) (hr.mono (by decide)) rfl T.g_need T.d_need.F.kp T.d_need.b .nil (passes_call (takes_of rfl rfl rfl rfl) (fun _ _ _ _ h => h)) (pa_cons (pe_chain op_le op_le pe_int (pv 1) (pe_cst T.c_MOST_THICK)) (pa_cons (pe_cst T.c_WRONG) pa_nil))))), ?_⟩)
  · obtain ⟨y, t, rfl, _⟩ := h
    rfl
  · obtain ⟨y, t, rfl, kS, kN⟩ := h
    refine ⟨_, rfl, _, _, rfl, rfl, _, rfl, ?_⟩
    by_cases c : 1 ≤ t
    · refine if_true_of (decide_eq_true (by omega)) ?_
      refine ⟨_, _, rfl, rfl, _, _, rfl, fun hb => kS ⟨c, ?_⟩, fun hb => kN ?_⟩
      · have := of_decide_eq_true hb
        omega
      · have := of_decide_eq_false hb
        omega
    · refine if_false_of (decide_eq_false (by omega)) ?_
      exact ⟨_, _, rfl, (fun hb => by cases hb), fun _ => kN (by omega)⟩
theorem ok_Yard_free_drums (T : Txt K mg a) : FnOk P w K mg base CX0 1 a.f_Yard_free_drums a.fd_Yard_free_drums ["self"] (sp_Yard_free_drums a) := by
  refine T.d_Yard_free_drums.F.ok sc_Yard_free_drums (fun vs H Q E h => ?_) (fun cdv A outer s H vs Q E hr h => ⟨_, (pss_one (ps_ret (pe_lc (own := [("number", 1), ("drum", 2)]) (g := gTup K 2 (gCons (gName 1) (gCons (gName 2) gNil))) rfl sc_Yard_free_drums.nd (pi_enum rfl T.b_enumerate (pa_cons (pe_fld (pv 0) rfl) pa_nil)) (blkOk_by (own := [("number", 1), ("drum", 2)]) (N := ["self", "number", "drum"]) (sc := defScope s_Yard_free_drums) (by decide +kernel)) (fun _ _ _ _ _ => (pg_tup rfl (pgs_cons (pg_name (i := 1) sc_Yard_free_drums.nd rfl (Or.inl rfl)) (pgs_cons (pg_name (i := 2) sc_Yard_free_drums.nd rfl (Or.inl rfl)) pgs_nil)))) (fun _ _ _ _ _ => pts_one (pt_cmpR op_isN (pe_fldK K rfl (pv 2) rfl) pe_non (nomark _))) (fun _ _ _ _ _ => (pv 1))))), ?_⟩)
  · obtain ⟨s', m, rfl, _⟩ := h
    rfl
  · obtain ⟨s', m, rfl, hy, ok, k⟩ := h
    obtain ⟨dx, hyd⟩ := hy.yard
    have hn := ok.dn
    refine ⟨_, rfl, s'.y, a.CY, dx, _, _, rfl, hyd, T.cl_Yard, T.n_Yard_drums, yF_drums _ _ _, s'.dl, _, rfl, SqL.of hy.dl, fun D hD => ?_⟩
    refine lc_fun (walk_enum (xs := s'.ds.map V.ref)) (fun i v H' => ∃ T' p, v = .ref T' ∧ H' T' = some (.tup [.int (i : Nat), .ref p]) ∧ s'.ds[i]? = some p) (fun i => Kp244.isFree (Kp244.drumAt m i)) (fun i => .int (i : Nat)) hD (by rw [List.length_map, hy.drums.1]; omega) (fun H' s => SqL.of (s _ _ hy.dl)) ?_ ?_ ?_
    · intro j Ha v Hb hj s y
      obtain ⟨s2, T', x, z, rfl, hT, hx, hz⟩ := y_pair y
      cases hx
      obtain ⟨p, hp, rfl⟩ := refs_at hz
      exact ⟨s2, T', p, rfl, hT, hp⟩
    · rintro j v Ha N1 N2 hj s ⟨T', p, rfl, hT, hp⟩ k1 k2
      rw [List.length_map, hy.drums.1] at hj
      obtain ⟨p', hp', dd, s1, s2, hd, hl⟩ := (hy.drums.same s).get hj
      rw [hp] at hp'
      cases hp'
      refine ⟨T', _, rfl, SqT.of hT, rfl, _, _, rfl, _, _, rfl, rfl, rfl, ?_⟩
      refine ⟨_, rfl, p, a.CD, dd, _, _, rfl, hd, T.cl_Drum, T.n_Drum_guest, dF_guest _ _ _ _, rfl, _, rfl, ?_⟩
      rw [guestV_free]
      cases c : Kp244.isFree (Kp244.drumAt m j) with
      | true => exact if_true_of rfl ⟨_, rfl, k2 _ (Same.refl _) c⟩
      | false => exact if_false_of rfl (k1 _ (Same.refl _) c)
    · intro H' s hH
      refine k H' D s ?_
      rw [hH, List.length_map, hy.drums.1]
      rfl
theorem ok_Yard_lent_to (T : Txt K mg a) : FnOk P w K mg base CX0 1 a.f_Yard_lent_to a.fd_Yard_lent_to ["self", "guest"] (sp_Yard_lent_to a) := by
  refine T.d_Yard_lent_to.F.ok sc_Yard_lent_to (fun vs H Q E h => ?_) (fun cdv A outer s H vs Q E hr h => ⟨_, (pss_one (ps_ret (pe_lc (own := [("number", 2), ("drum", 3)]) (g := gTup K 2 (gCons (gName 2) (gCons (gName 3) gNil))) rfl sc_Yard_lent_to.nd (pi_enum rfl T.b_enumerate (pa_cons (pe_fld (pv 0) rfl) pa_nil)) (blkOk_by (own := [("number", 2), ("drum", 3)]) (N := ["self", "guest", "number", "drum"]) (sc := defScope s_Yard_lent_to) (by decide +kernel)) (fun _ _ _ _ _ => (pg_tup rfl (pgs_cons (pg_name (i := 2) sc_Yard_lent_to.nd rfl (Or.inl rfl)) (pgs_cons (pg_name (i := 3) sc_Yard_lent_to.nd rfl (Or.inl rfl)) pgs_nil)))) (fun _ _ _ _ _ => pts_one (pt_cmpR op_eq (pe_fldK K rfl (pv 3) rfl) (pv 1) (nomark _))) (fun _ _ _ _ _ => (pv 2))))), ?_⟩)
  · obtain ⟨s', m, g, rfl, _⟩ := h
    rfl
  · obtain ⟨s', m, g, rfl, hy, ok, k⟩ := h
    obtain ⟨dx, hyd⟩ := hy.yard
    have hn := ok.dn
    refine ⟨_, rfl, s'.y, a.CY, dx, _, _, rfl, hyd, T.cl_Yard, T.n_Yard_drums, yF_drums _ _ _, s'.dl, _, rfl, SqL.of hy.dl, fun D hD => ?_⟩
    refine lc_fun (walk_enum (xs := s'.ds.map V.ref)) (fun i v H' => ∃ T' p, v = .ref T' ∧ H' T' = some (.tup [.int (i : Nat), .ref p]) ∧ s'.ds[i]? = some p) (fun i => lentB g (Kp244.drumAt m i)) (fun i => .int (i : Nat)) hD (by rw [List.length_map, hy.drums.1]; omega) (fun H' s => SqL.of (s _ _ hy.dl)) ?_ ?_ ?_
    · intro j Ha v Hb hj s y
      obtain ⟨s2, T', x, z, rfl, hT, hx, hz⟩ := y_pair y
      cases hx
      obtain ⟨p, hp, rfl⟩ := refs_at hz
      exact ⟨s2, T', p, rfl, hT, hp⟩
    · rintro j v Ha N1 N2 hj s ⟨T', p, rfl, hT, hp⟩ k1 k2
      rw [List.length_map, hy.drums.1] at hj
      obtain ⟨p', hp', dd, s1, s2, hd, hl⟩ := (hy.drums.same s).get hj
      rw [hp] at hp'
      cases hp'
      obtain ⟨e1, e2⟩ := guestV_eq (Kp244.drumAt m j) g
      refine ⟨T', _, rfl, SqT.of hT, rfl, _, _, rfl, _, _, rfl, rfl, rfl, ?_⟩
      refine ⟨_, rfl, p, a.CD, dd, _, _, rfl, hd, T.cl_Drum, T.n_Drum_guest, dF_guest _ _ _ _, _, rfl, e1, _, rfl, ?_⟩
      rw [e2]
      cases c : lentB g (Kp244.drumAt m j) with
      | true => exact if_true_of rfl ⟨_, rfl, k2 _ (Same.refl _) c⟩
      | false => exact if_false_of rfl (k1 _ (Same.refl _) c)
    · intro H' s hH
      refine k H' D s ?_
      rw [hH, List.length_map, hy.drums.1]
      rfl
theorem ok_Yard_late_drums (T : Txt K mg a) : FnOk P w K mg base CX0 1 a.f_Yard_late_drums a.fd_Yard_late_drums ["self"] (sp_Yard_late_drums a) := by
  refine T.d_Yard_late_drums.F.ok sc_Yard_late_drums (fun vs H Q E h => ?_) (fun cdv A outer s H vs Q E hr h => ⟨_, (pss_one (ps_ret (pe_lc (own := [("number", 1), ("drum", 2)]) (g := gTup K 2 (gCons (gName 1) (gCons (gName 2) gNil))) rfl sc_Yard_late_drums.nd (pi_enum rfl T.b_enumerate (pa_cons (pe_fld (pv 0) rfl) pa_nil)) (blkOk_by (own := [("number", 1), ("drum", 2)]) (N := ["self", "number", "drum"]) (sc := defScope s_Yard_late_drums) (by decide +kernel)) (fun _ _ _ _ _ => (pg_tup rfl (pgs_cons (pg_name (i := 1) sc_Yard_late_drums.nd rfl (Or.inl rfl)) (pgs_cons (pg_name (i := 2) sc_Yard_late_drums.nd rfl (Or.inl rfl)) pgs_nil)))) (fun _ _ _ _ _ => pts_one (PW.pt (pw_and (pt_cmpR op_notN (pe_fldK K rfl (pv 2) rfl) pe_non (nomark _)) (pw_and1 (pt_cmpR op_lt (pe_fldK K rfl (pv 2) rfl) (pe_fldK K rfl (pv 0) rfl) (nomark _)))))) (fun _ _ _ _ _ => (pv 1))))), ?_⟩)
  · obtain ⟨s', m, rfl, _⟩ := h
    rfl
  · obtain ⟨s', m, rfl, hy, ok, k⟩ := h
    obtain ⟨dx, hyd⟩ := hy.yard
    have hn := ok.dn
    refine ⟨_, rfl, s'.y, a.CY, dx, _, _, rfl, hyd, T.cl_Yard, T.n_Yard_drums, yF_drums _ _ _, s'.dl, _, rfl, SqL.of hy.dl, fun D hD => ?_⟩
    refine lc_fun (walk_enum (xs := s'.ds.map V.ref)) (fun i v H' => ∃ T' p, v = .ref T' ∧ H' T' = some (.tup [.int (i : Nat), .ref p]) ∧ s'.ds[i]? = some p) (fun i => lateB m (Kp244.drumAt m i)) (fun i => .int (i : Nat)) hD (by rw [List.length_map, hy.drums.1]; omega) (fun H' s => SqL.of (s _ _ hy.dl)) ?_ ?_ ?_
    · intro j Ha v Hb hj s y
      obtain ⟨s2, T', x, z, rfl, hT, hx, hz⟩ := y_pair y
      cases hx
      obtain ⟨p, hp, rfl⟩ := refs_at hz
      exact ⟨s2, T', p, rfl, hT, hp⟩
    · rintro j v Ha N1 N2 hj s ⟨T', p, rfl, hT, hp⟩ k1 k2
      rw [List.length_map, hy.drums.1] at hj
      obtain ⟨p', hp', dd, s1, s2, hd, hl⟩ := (hy.drums.same s).get hj
      rw [hp] at hp'
      cases hp'
      refine ⟨T', _, rfl, SqT.of hT, rfl, _, _, rfl, _, _, rfl, rfl, rfl, ?_⟩
      refine ⟨_, rfl, p, a.CD, dd, _, _, rfl, hd, T.cl_Drum, T.n_Drum_guest, dF_guest _ _ _ _, rfl, _, rfl, ?_⟩
      rw [guestV_free]
      cases c : (Kp244.drumAt m j).lent with
      | none =>
        have e1 : Kp244.isFree (Kp244.drumAt m j) = true := by
          unfold Kp244.isFree
          rw [c]
          rfl
        have e2 : lateB m (Kp244.drumAt m j) = false := by
          unfold lateB
          rw [c]
        rw [e1]
        exact if_false_of rfl (if_false_of rfl (k1 _ (Same.refl _) e2))
      | some z =>
        have e1 : Kp244.isFree (Kp244.drumAt m j) = false := by
          unfold Kp244.isFree
          rw [c]
          rfl
        have e2 : lateB m (Kp244.drumAt m j) = decide (z.2.2 < m.day) := by
          unfold lateB
          rw [c]
        obtain ⟨rfl, rfl⟩ := hl z c
        rw [e1]
        refine if_true_of rfl ?_
        refine ⟨_, rfl, p, a.CD, dd, _, _, rfl, hd, T.cl_Drum, T.n_Drum_till, dF_till _ _ _ _, _, rfl, s'.y, a.CY, dx, _, _, rfl, s _ _ hyd, T.cl_Yard, T.n_Yard_today, yF_today _ _ _, _, _, rfl, rfl, _, rfl, ?_⟩
        by_cases c2 : z.2.2 < m.day
        · exact if_true_of (decide_eq_true (by omega)) ⟨_, rfl, k2 _ (Same.refl _) (by rw [e2]; exact decide_eq_true c2)⟩
        · exact if_false_of (decide_eq_false (by omega)) (k1 _ (Same.refl _) (by rw [e2]; exact decide_eq_false c2))
    · intro H' s hH
      refine k H' D s ?_
      rw [hH, List.length_map, hy.drums.1]
      rfl
theorem ok_Yard_charge (T : Txt K mg a) : FnOk P w K mg base CX0 2 a.f_Yard_charge a.fd_Yard_charge ["self", "drum"] (sp_Yard_charge a) := by
  refine T.d_Yard_charge.F.ok sc_Yard_charge (fun vs H Q E h => ?_) (fun cdv A outer s H vs Q E hr h => ⟨_, (pss_cons (ps_set (i := 2) sc_Yard_charge.nd rfl (Or.inl rfl) (pe_ix ix_list (pe_fld (pv 0) rfl) (pe_fld (pv 1) rfl) (fun _ _ => rfl)))
      (pss_cons (ps_set (i := 3) sc_Yard_charge.nd rfl (Or.inl rfl) (pe_meth (pv 1) T.cl_Drum T.m_Drum_charged (ok_Drum_charged T) (hr.mono (by decide)) T.d_Drum_charged.b .nil pass0 (pa_cons (pe_fld (pv 0) rfl) (pa_cons (pe_fld (pv 0) rfl) pa_nil))))
      (pss_cons (ps_fld (pv 2) (pe_op op_addN (pe_fld (pv 2) rfl) (pv 3)) rfl)
      (pss_one (ps_ret (pv 3)))))), ?_⟩)
  · obtain ⟨s', m, i, p, z, rfl, _⟩ := h
    rfl
  · obtain ⟨s', m, i, p, z, rfl, hy, ok, hp, hi, hz, k⟩ := h
    obtain ⟨dx, hyd⟩ := hy.yard
    obtain ⟨p', hp', hdr⟩ := hy.drums.get hi
    rw [hp] at hp'
    cases hp'
    obtain ⟨dd, s1, s2, hd, hl⟩ := id hdr
    obtain ⟨hz1, hz2⟩ := ok.lent _ (drumAt_mem hi) z hz
    obtain ⟨gp, hgp, dg, hg⟩ := hy.guests.get hz1
    have eg : guestV (Kp244.drumAt m i) = .int (z.1 : Int) := by
      unfold guestV
      rw [hz]
    refine ⟨_, rfl, s'.y, a.CY, dx, _, _, rfl, hyd, T.cl_Yard, T.n_Yard_guests, yF_guests _ _ _, _, rfl, p, a.CD, dd, _, _, rfl, hd, T.cl_Drum, T.n_Drum_guest, dF_guest _ _ _ _, s'.gl, _, _, _, rfl, eg, SqL.of hy.gl, atI_nat (by rw [List.getElem?_map, hgp]; rfl), ?_⟩
    refine ⟨_, rfl, p, dd, _, rfl, hd, dF_no _ _ _ _ (by decide +kernel), _, rfl, s'.y, a.CY, dx, _, _, rfl, hyd, T.cl_Yard, T.n_Yard_today, yF_today _ _ _, _, rfl, s'.y, a.CY, dx, _, _, rfl, hyd, T.cl_Yard, T.n_Yard_free_days, yF_free _ _ _, p, _, m.day, m.free, z, rfl, hdr, hz, hz2, ok.day, ?_⟩
    refine ⟨_, rfl, gp, a.CG, dg, _, _, rfl, hg, T.cl_Guest, T.n_Guest_owed, gF_owed _, _, rfl, _, _, rfl, rfl, _, rfl, gp, a.CG, dg, _, rfl, hg, T.cl_Guest, T.n_Guest_owed, (by show 2 < 1000; decide), ?_⟩
    rw [gF_putO]
    refine ⟨_, rfl, k _ (hy.setGuest hgp hz1) fun b o e hb => ?_⟩
    rw [upd_ne fun z => hb (by rw [z]; exact List.mem_of_getElem? hgp)]
    exact e
end
end Ld
/-! The yard's questions. -/
namespace Ld
open PySem PySem.Spec PyProof.Rows L2
def sp_Yard_told_room (a : Ad) : Sp := fun vs H Q E => ∃ (s : YS) (m : Kp244.Yard) (d t : Nat), vs = [.ref s.y, ni d, ni t] ∧ YardAt a H s m ∧ YardOk m ∧ Ans1 a H s m (Kp244.step (some m) (.holds d t)) Q E
def sp_Yard_thickest (a : Ad) : Sp := fun vs H Q E => ∃ (s : YS) (m : Kp244.Yard) (d t : Nat), vs = [.ref s.y, ni d, ni t] ∧ YardAt a H s m ∧ YardOk m ∧ Ans1 a H s m (Kp244.step (some m) (.thickest d t)) Q E
def sp_Yard_told_owed (a : Ad) : Sp := fun vs H Q E => ∃ (s : YS) (m : Kp244.Yard) (g : Nat), vs = [.ref s.y, ni g] ∧ YardAt a H s m ∧ YardOk m ∧ Ans1 a H s m (Kp244.step (some m) (.owes g)) Q E
def sp_Yard_told_would (a : Ad) : Sp := fun vs H Q E => ∃ (s : YS) (m : Kp244.Yard) (g : Nat), vs = [.ref s.y, ni g] ∧ YardAt a H s m ∧ YardOk m ∧ Ans1 a H s m (Kp244.step (some m) (.would g)) Q E
def sp_Yard_told_lent (a : Ad) : Sp := fun vs H Q E => ∃ (s : YS) (m : Kp244.Yard) (g : Nat), vs = [.ref s.y, ni g] ∧ YardAt a H s m ∧ YardOk m ∧ Ans1 a H s m (Kp244.step (some m) (.lentTo g)) Q E
def sp_Yard_told_eaten (a : Ad) : Sp := fun vs H Q E => ∃ (s : YS) (m : Kp244.Yard) (d : Nat), vs = [.ref s.y, ni d] ∧ YardAt a H s m ∧ YardOk m ∧ Ans1 a H s m (Kp244.step (some m) (.eaten d)) Q E
def sp_Yard_told_drum (a : Ad) : Sp := fun vs H Q E => ∃ (s : YS) (m : Kp244.Yard) (d : Nat), vs = [.ref s.y, ni d] ∧ YardAt a H s m ∧ YardOk m ∧ Ans1 a H s m (Kp244.step (some m) (.look d)) Q E
def sp_Yard_told_sums (a : Ad) : Sp := fun vs H Q E => ∃ (s : YS) (m : Kp244.Yard), vs = [.ref s.y] ∧ YardAt a H s m ∧ YardOk m ∧ Ans1 a H s m (Kp244.step (some m) .sums) Q E
theorem tell_nl (l : List Nat) : nl (l.length :: l) = ((Kp244.tellAll l).num :: (Kp244.tellAll l).nums).map V.int := by
  show V.int (l.length : Int) :: l.map (fun (n : Nat) => V.int (n : Int)) = V.int (l.length : Int) :: (l.map fun (x : Nat) => (x : Int)).map V.int
  rw [List.map_map]
  rfl
theorem map_guests {β : Type} (m : Kp244.Yard) (f : Kp244.Guest → β) : (List.range m.guests.length).map (fun i => f (Kp244.guestAt m i)) = m.guests.map f := by
  have h := filter_range_get (⟨0, 0, 0⟩ : Kp244.Guest) (fun _ => true) f m.guests
  rw [filter_all, List.filter_eq_self.mpr fun _ _ => rfl] at h
  exact h
section
variable {a : Ad} {H : Hp} {s : YS} {m : Kp244.Yard} {r : Kp244.Ans} {Q : VK} {E : XK}
/-- a question refused -/
theorem Ans1.no (k : Ans1 a H s m (some m, r) Q E) {code : Int} (hc : code < 0) (e : r = Kp244.say code) : Refuse a H code E := k.1 code hc (by rw [e])
/-- a question answered -/
theorem Ans1.yes (k : Ans1 a H s m (some m, r) Q E) (hy : YardAt a H s m) {ans : Kp244.Ans} (e : r = ans) (hn : 0 ≤ ans.num) {H' : Hp} {q : Addr} (sm : Same H H') (hq : H q = none) (hl : H' q = some (.lst ((ans.num :: ans.nums).map V.int))) : Q (.ref q) H' :=
  k.2 m s H' q ans (by rw [e]) hn (.same sm) (hy.same sm) hq hl
end
section
variable {P : Program} {w : World} {K : PySem.W.Frag} {mg : Str → Option Value} {base : Heap} {a : Ad}
theorem ok_Yard_told_room (T : Txt K mg a) : FnOk P w K mg base (L2.CX P w) 5 a.f_Yard_told_room a.fd_Yard_told_room ["self", "number", "thick"] (sp_Yard_told_room a) := by
  refine T.d_Yard_told_room.F.okX sc_Yard_told_room (fun vs H Q E h => ?_) (fun cdv A outer s H vs Q E hr h => ⟨_, (pss_cons (ps_set (i := 3) sc_Yard_told_room.nd rfl (Or.inl rfl) (pe_meth (pv 0) T.cl_Yard T.m_Yard_drum_at (ok_Yard_drum_at T) (hr.mono (by decide)) T.d_Yard_drum_at.b .nil (passes_call (takes_of rfl rfl rfl rfl) (fun _ _ _ _ h => h)) (pa_cons (pv 1) pa_nil)))
      (pss_cons (ps_expr (pe_meth (pv 0) T.cl_Yard T.m_Yard_need_thick (ok_Yard_need_thick T) (hr.mono (by decide)) T.d_Yard_need_thick.b .nil (passes_call (takes_of rfl rfl rfl rfl) (fun _ _ _ _ h => h)) (pa_cons (pv 2) pa_nil)))
      (pss_one (ps_ret (pe_lst (pa_cons (pe_meth (pv 3) T.cl_Drum T.m_Drum_metres (ok_Drum_metres T) (hr.mono (by decide)) T.d_Drum_metres.b .nil pass0 (pa_cons (pv 2) pa_nil)) (pa_cons (pe_meth (pv 3) T.cl_Drum T.m_Drum_layers (ok_Drum_layers T) (hr.mono (by decide)) T.d_Drum_layers.b .nil pass0 (pa_cons (pv 2) pa_nil)) (pa_cons (pe_meth (pv 3) T.cl_Drum T.m_Drum_turns (ok_Drum_turns T) (hr.mono (by decide)) T.d_Drum_turns.b .nil pass0 (pa_cons (pv 2) pa_nil)) pa_nil)))))))), ?_⟩)
  · obtain ⟨s', m, d, t, rfl, _⟩ := h
    rfl
  · obtain ⟨s', m, d, t, rfl, hy, ok, k⟩ := h
    obtain ⟨dx, hyd⟩ := hy.yard
    have k : Ans1 a H s' m (some m, if Kp244.isDrum m d = false then Kp244.say (-2) else if t = 0 ∨ 200 < t then Kp244.say (-22) else ⟨(Kp244.holds (Kp244.drumAt m d) t : Int), Kp244.ints [Kp244.layers (Kp244.drumAt m d) t, Kp244.turns (Kp244.drumAt m d) t]⟩) Q E := k
    refine ⟨_, rfl, s'.y, dx, _, rfl, hyd, yF_no _ _ _ (by decide +kernel), _, rfl, s', m, d, rfl, hy, fun p hd hp => ?_, fun hd => k.no (by decide) (if_pos (isDrum_no hd))⟩
    rw [if_no (isDrum_of hd)] at k
    obtain ⟨p', hp', hdr⟩ := hy.drums.get hd
    rw [hp] at hp'
    cases hp'
    obtain ⟨dd, s1, s2, hpd, hl⟩ := id hdr
    have g := ok.good _ (drumAt_mem hd)
    refine ⟨_, rfl, s'.y, dx, _, rfl, hyd, yF_no _ _ _ (by decide +kernel), _, rfl, _, t, rfl, fun ht => ?_, fun ht => k.no (by decide) (if_pos (by omega))⟩
    rw [if_neg (by omega)] at k
    refine ⟨_, rfl, p, dd, _, rfl, hpd, dF_no _ _ _ _ (by decide +kernel), _, rfl, p, _, t, rfl, hdr, g, ht.1, ht.2, ?_⟩
    refine ⟨_, rfl, p, dd, _, rfl, hpd, dF_no _ _ _ _ (by decide +kernel), _, rfl, p, _, t, rfl, hdr, g, ht.1, ht.2, ?_⟩
    refine ⟨_, rfl, p, dd, _, rfl, hpd, dF_no _ _ _ _ (by decide +kernel), _, rfl, p, _, t, rfl, hdr, g, ht.1, ht.2, ?_⟩
    exact ⟨(by show 3 ≤ sizeLine; decide), fun q hq => k.yes hy rfl (Int.natCast_nonneg _) (same_upd hq) hq upd_same⟩
theorem ok_Yard_thickest (T : Txt K mg a) : FnOk P w K mg base (L2.CX P w) 5 a.f_Yard_thickest a.fd_Yard_thickest ["self", "number", "metres"] (sp_Yard_thickest a) := by
  refine T.d_Yard_thickest.F.okX sc_Yard_thickest (fun vs H Q E h => ?_) (fun cdv A outer s H vs Q E hr h => ⟨_, (pss_cons (ps_set (i := 3) sc_Yard_thickest.nd rfl (Or.inl rfl) (pe_meth (pv 0) T.cl_Yard T.m_Yard_drum_at (ok_Yard_drum_at T) (hr.mono (by decide)) T.d_Yard_drum_at.b .nil (passes_call (takes_of rfl rfl rfl rfl) (fun _ _ _ _ h => h)) (pa_cons (pv 1) pa_nil)))
      (pss_cons (ps_expr (pe_call (ok_need T) (hr.mono (by decide)) rfl T.g_need T.d_need.F.kp T.d_need.b .nil (passes_call (takes_of rfl rfl rfl rfl) (fun _ _ _ _ h => h)) (pa_cons (pe_cmpR op_gt (pv 2) pe_int (nomark _)) (pa_cons (pe_cst T.c_WRONG) pa_nil))))
      (pss_cons (ps_set (i := 4) sc_Yard_thickest.nd rfl (Or.inl rfl) (pe_meth (pv 3) T.cl_Drum T.m_Drum_thickest (ok_Drum_thickest T) (hr.mono (by decide)) T.d_Drum_thickest.b .nil pass0 (pa_cons (pv 2) pa_nil)))
      (pss_cons (ps_expr (pe_call (ok_need T) (hr.mono (by decide)) rfl T.g_need T.d_need.F.kp T.d_need.b .nil (passes_call (takes_of rfl rfl rfl rfl) (fun _ _ _ _ h => h)) (pa_cons (pe_cmpR op_gt (pv 4) pe_int (nomark _)) (pa_cons (pe_cst T.c_NONE_SUCH) pa_nil))))
      (pss_one (ps_ret (pe_lst (pa_cons (pv 4) pa_nil)))))))), ?_⟩)
  · obtain ⟨s', m, d, t, rfl, _⟩ := h
    rfl
  · obtain ⟨s', m, d, t, rfl, hy, ok, k⟩ := h
    obtain ⟨dx, hyd⟩ := hy.yard
    have k : Ans1 a H s' m (some m, if Kp244.isDrum m d = false then Kp244.say (-2) else if t = 0 then Kp244.say (-22) else match Kp244.thickest (Kp244.drumAt m d) t with
      | some t => Kp244.say (t : Int)
      | none => Kp244.say (-33)) Q E := k
    refine ⟨_, rfl, s'.y, dx, _, rfl, hyd, yF_no _ _ _ (by decide +kernel), _, rfl, s', m, d, rfl, hy, fun p hd hp => ?_, fun hd => k.no (by decide) (if_pos (isDrum_no hd))⟩
    rw [if_no (isDrum_of hd)] at k
    obtain ⟨p', hp', hdr⟩ := hy.drums.get hd
    rw [hp] at hp'
    cases hp'
    obtain ⟨dd, s1, s2, hpd, hl⟩ := id hdr
    have g := ok.good _ (drumAt_mem hd)
    refine ⟨_, rfl, _, _, rfl, rfl, _, _, rfl, fun hb => ?_, fun hb => k.no (by decide) (if_pos (by have := of_decide_eq_false hb; omega))⟩
    have ht := of_decide_eq_true hb
    rw [if_neg (by omega)] at k
    refine ⟨_, rfl, p, dd, _, rfl, hpd, dF_no _ _ _ _ (by decide +kernel), _, rfl, p, _, t, rfl, hdr, g, fun r hr hm hk => ?_⟩
    refine ⟨_, rfl, _, _, rfl, rfl, _, _, rfl, fun hb2 => ?_, fun hb2 => k.no (by decide) ?_⟩
    · have hr0 := of_decide_eq_true hb2
      rw [thickest_some (by omega) hr (hm (by omega)) hk] at k
      exact ⟨_, rfl, (by show 1 ≤ sizeLine; decide), fun q hq => k.yes hy rfl (Int.natCast_nonneg _) (same_upd hq) hq upd_same⟩
    · have hr0 := of_decide_eq_false hb2
      rw [thickest_none fun j h1 h2 => hk j (by omega) h2]
theorem ok_Yard_told_owed (T : Txt K mg a) : FnOk P w K mg base (L2.CX P w) 5 a.f_Yard_told_owed a.fd_Yard_told_owed ["self", "number"] (sp_Yard_told_owed a) := by
  refine T.d_Yard_told_owed.F.okX sc_Yard_told_owed (fun vs H Q E h => ?_) (fun cdv A outer s H vs Q E hr h => ⟨_, (pss_cons (ps_set (i := 2) sc_Yard_told_owed.nd rfl (Or.inl rfl) (pe_meth (pv 0) T.cl_Yard T.m_Yard_guest_at (ok_Yard_guest_at T) (hr.mono (by decide)) T.d_Yard_guest_at.b .nil (passes_call (takes_of rfl rfl rfl rfl) (fun _ _ _ _ h => h)) (pa_cons (pv 1) pa_nil)))
      (pss_cons (ps_set (i := 3) sc_Yard_told_owed.nd rfl (Or.inl rfl) (pe_callB (cr_sum rfl) (by rfl) T.b_sum (by decide +kernel) (pa_cons (pe_lc (own := [("drum", 4)]) (g := gName 4) (tt := tYes) rfl sc_Yard_told_owed.nd (pi_list (pe_meth (pv 0) T.cl_Yard T.m_Yard_lent_to (ok_Yard_lent_to T) (hr.mono (by decide)) T.d_Yard_lent_to.b .nil pass0 (pa_cons (pv 1) pa_nil))) (blkOk_by (own := [("drum", 4)]) (N := ["self", "number", "guest", "pledged", "drum"]) (sc := defScope s_Yard_told_owed) (by decide +kernel)) (fun _ _ _ _ _ => (pg_name (i := 4) sc_Yard_told_owed.nd rfl (Or.inl rfl))) (fun _ _ _ _ _ => pts_nil) (fun _ _ _ _ _ => (pe_fldK K rfl (pe_ix (ix_listK K rfl) (pe_fldK K rfl (pv 0) rfl) (pv 4) (fun _ _ => rfl)) rfl))) pa_nil)))
      (pss_one (ps_ret (pe_lst (pa_cons pe_int (pa_cons (pe_op op_subN (pe_fld (pv 2) rfl) (pe_fld (pv 2) rfl)) (pa_cons (pv 3) pa_nil)))))))), ?_⟩)
  · obtain ⟨s', m, g, rfl, _⟩ := h
    rfl
  · obtain ⟨s', m, g, rfl, hy, ok, k⟩ := h
    obtain ⟨dx, hyd⟩ := hy.yard
    have k : Ans1 a H s' m (some m, if Kp244.isGuest m g = false then Kp244.say (-2) else ⟨0, Kp244.ints [(Kp244.guestAt m g).owed - (Kp244.guestAt m g).paid, (Kp244.guestAt m g).pledged]⟩) Q E := k
    refine ⟨_, rfl, s'.y, dx, _, rfl, hyd, yF_no _ _ _ (by decide +kernel), _, rfl, s', m, g, rfl, hy, fun p hg hp => ?_, fun hg => k.no (by decide) (if_pos (isGuest_no hg))⟩
    rw [if_no (isGuest_of hg)] at k
    obtain ⟨p', hp', dg, hgd⟩ := hy.guests.get hg
    rw [hp] at hp'
    cases hp'
    have hpaid := ok.paid _ (guestAt_mem hg)
    have hpl := ok.pledged g _ (guestAt_get hg)
    have hlen := lentTo_length m g
    have hdn := ok.dn
    refine ⟨_, rfl, s'.y, dx, _, rfl, hyd, yF_no _ _ _ (by decide +kernel), _, rfl, s', m, g, rfl, hy, ok, fun H1 l sm hl => ⟨l, rfl, ⟨_, SqL.of hl⟩, fun D hD => ?_⟩⟩
    refine lc_fun (walk_list (xs := nl (Kp244.lentTo m g))) (fun i v H' => i < (Kp244.lentTo m g).length ∧ v = .int ((Kp244.lentTo m g).getD i 0 : Nat)) (fun _ => true) (fun i => .int ((Kp244.drumAt m ((Kp244.lentTo m g).getD i 0)).pledge : Nat)) hD (by rw [nl_length]; omega) (fun H' s => SqL.of (s _ _ hl)) ?_ ?_ ?_
    · intro i Ha v Hb hi sm' y
      obtain ⟨s2, e⟩ := y_at y
      obtain ⟨n, hn, rfl⟩ := nl_at e
      rw [nl_length] at hi
      exact ⟨s2, hi, by rw [getD_of hn]⟩
    · rintro i v Ha N1 N2 hi sm' ⟨hi2, rfl⟩ k1 k2
      have hm := (lentTo_mem (List.mem_of_getElem? (get_of hi2))).1
      obtain ⟨pd, h1, dd, s1, s2, h3, _⟩ := (hy.same (sm.trans sm')).drums.get hm
      have hy2 := (sm.trans sm') _ _ hyd
      exact ⟨rfl, _, rfl, s'.y, a.CY, dx, _, _, rfl, hy2, T.cl_Yard, T.n_Yard_drums, yF_drums _ _ _, _, rfl, s'.dl, s'.ds.map V.ref, _, _, rfl, rfl, SqL.of ((sm.trans sm') _ _ hy.dl), atI_nat (by rw [List.getElem?_map, h1]; rfl), pd, a.CD, dd, _, _, rfl, h3, T.cl_Drum, T.n_Drum_pledge, dF_pledge _ _ _ _, k2 _ (Same.refl _) rfl⟩
    · intro H2 sm2 hH
      have smH := sm.trans sm2
      refine ⟨D, (((Kp244.lentTo m g).map fun d => (Kp244.drumAt m d).pledge).map fun (n : Nat) => (n : Int)), rfl, SqL.of ?_, ?_⟩
      · rw [hH, nl_length, filter_all, map_range_getD (fun d => V.int ((Kp244.drumAt m d).pledge : Nat)), List.map_map, List.map_map]
        rfl
      · refine ⟨_, rfl, p, a.CG, dg, _, _, rfl, smH _ _ hgd, T.cl_Guest, T.n_Guest_owed, gF_owed _, _, rfl, p, a.CG, dg, _, _, rfl, smH _ _ hgd, T.cl_Guest, T.n_Guest_paid, gF_paid _, _, _, rfl, rfl, hpaid, _, rfl, (by show 3 ≤ sizeLine; decide), fun q hq => ?_⟩
        refine k.yes hy rfl (Int.le_refl 0) (smH.trans (same_upd hq)) (smH.free hq) ?_
        rw [upd_same, sum_cast, lentTo_pledge, ← hpl]
        rfl
theorem ok_Yard_told_would (T : Txt K mg a) : FnOk P w K mg base (L2.CX P w) 5 a.f_Yard_told_would a.fd_Yard_told_would ["self", "number"] (sp_Yard_told_would a) := by
  refine T.d_Yard_told_would.F.okX sc_Yard_told_would (fun vs H Q E h => ?_) (fun cdv A outer s H vs Q E hr h => ⟨_, (pss_cons (ps_set (i := 2) sc_Yard_told_would.nd rfl (Or.inl rfl) (pe_meth (pv 0) T.cl_Yard T.m_Yard_guest_at (ok_Yard_guest_at T) (hr.mono (by decide)) T.d_Yard_guest_at.b .nil (passes_call (takes_of rfl rfl rfl rfl) (fun _ _ _ _ h => h)) (pa_cons (pv 1) pa_nil)))
      (pss_cons (ps_setLc (i := 3) (own := [("drum", 4)]) (g := gName 4) (tt := tYes) rfl sc_Yard_told_would.nd rfl rfl (sw_true rfl rfl rfl (by decide +kernel)) (pi_list (pe_meth (pv 0) T.cl_Yard T.m_Yard_lent_to (ok_Yard_lent_to T) (hr.mono (by decide)) T.d_Yard_lent_to.b .nil pass0 (pa_cons (pv 1) pa_nil))) (blkOk_by (own := [("drum", 4)]) (N := ["self", "number", "guest", "charges", "drum"]) (sc := defScope s_Yard_told_would) (by decide +kernel)) (fun _ _ _ _ _ => (pg_name (i := 4) sc_Yard_told_would.nd rfl (Or.inl rfl))) (fun _ _ _ _ _ => pts_nil) (fun _ _ _ _ _ => (pe_meth (pe_ix (ix_listK K rfl) (pe_fldK K rfl (pv 0) rfl) (pv 4) (fun _ _ => rfl)) T.cl_Drum T.m_Drum_charged (ok_Drum_charged T) (hr.mono (by decide)) T.d_Drum_charged.b .nil pass0 (pa_cons (pe_fldK K rfl (pv 0) rfl) (pa_cons (pe_fldK K rfl (pv 0) rfl) pa_nil)))))
      (pss_one (ps_ret (pe_lst (pa_cons pe_int (pa_cons (pe_op op_add (pe_op op_sub (pe_fld (pv 2) rfl) (pe_fld (pv 2) rfl)) (pe_callB (cr_sum rfl) (by rfl) T.b_sum (by decide +kernel) (pa_cons (pv 3) pa_nil))) pa_nil))))))), ?_⟩)
  · obtain ⟨s', m, g, rfl, _⟩ := h
    rfl
  · obtain ⟨s', m, g, rfl, hy, ok, k⟩ := h
    obtain ⟨dx, hyd⟩ := hy.yard
    have k : Ans1 a H s' m (some m, if Kp244.isGuest m g = false then Kp244.say (-2) else ⟨0, Kp244.ints [Kp244.wouldOwe m g]⟩) Q E := k
    refine ⟨_, rfl, s'.y, dx, _, rfl, hyd, yF_no _ _ _ (by decide +kernel), _, rfl, s', m, g, rfl, hy, fun p hg hp => ?_, fun hg => k.no (by decide) (if_pos (isGuest_no hg))⟩
    rw [if_no (isGuest_of hg)] at k
    obtain ⟨p', hp', dg, hgd⟩ := hy.guests.get hg
    rw [hp] at hp'
    cases hp'
    have hpaid := ok.paid _ (guestAt_mem hg)
    have hlen := lentTo_length m g
    have hdn := ok.dn
    let ch : Nat → Nat := fun d => match (Kp244.drumAt m d).lent with
      | some z => Kp244.charge m (Kp244.drumAt m d) z.2.1
      | none => 0
    refine ⟨_, rfl, s'.y, dx, _, rfl, hyd, yF_no _ _ _ (by decide +kernel), _, rfl, s', m, g, rfl, hy, ok, fun H1 l sm hl => ⟨l, rfl, ⟨_, SqL.of hl⟩, fun D hD => ?_⟩⟩
    refine lc_fun (walk_list (xs := nl (Kp244.lentTo m g))) (fun i v H' => i < (Kp244.lentTo m g).length ∧ v = .int ((Kp244.lentTo m g).getD i 0 : Nat)) (fun _ => true) (fun i => .int (ch ((Kp244.lentTo m g).getD i 0) : Nat)) hD (by rw [nl_length]; omega) (fun H' s => SqL.of (s _ _ hl)) ?_ ?_ ?_
    · intro i Ha v Hb hi sm' y
      obtain ⟨s2, e⟩ := y_at y
      obtain ⟨n, hn, rfl⟩ := nl_at e
      rw [nl_length] at hi
      exact ⟨s2, hi, by rw [getD_of hn]⟩
    · rintro i v Ha N1 N2 hi sm' ⟨hi2, rfl⟩ k1 k2
      obtain ⟨hm, z, hz, _⟩ := lentTo_mem (List.mem_of_getElem? (get_of hi2))
      have smA := sm.trans sm'
      obtain ⟨pd, h1, hdr⟩ := (hy.same smA).drums.get hm
      obtain ⟨dd, s1, s2, h3, _⟩ := id hdr
      have hy2 := smA _ _ hyd
      obtain ⟨_, hz2⟩ := ok.lent _ (drumAt_mem hm) z hz
      refine ⟨rfl, _, rfl, s'.y, a.CY, dx, _, _, rfl, hy2, T.cl_Yard, T.n_Yard_drums, yF_drums _ _ _, _, rfl, s'.dl, s'.ds.map V.ref, _, _, rfl, rfl, SqL.of (smA _ _ hy.dl), atI_nat (by rw [List.getElem?_map, h1]; rfl), pd, dd, _, rfl, h3, dF_no _ _ _ _ (by decide +kernel), ?_⟩
      refine ⟨_, rfl, s'.y, a.CY, dx, _, _, rfl, hy2, T.cl_Yard, T.n_Yard_today, yF_today _ _ _, _, rfl, s'.y, a.CY, dx, _, _, rfl, hy2, T.cl_Yard, T.n_Yard_free_days, yF_free _ _ _, pd, _, m.day, m.free, z, rfl, hdr, hz, hz2, ok.day, ?_⟩
      have q := k2 Ha (Same.refl _) rfl
      have e : ch ((Kp244.lentTo m g).getD i 0) = (m.day - z.2.1 - m.free) * (Kp244.drumAt m ((Kp244.lentTo m g).getD i 0)).daily := by
        show (match (Kp244.drumAt m ((Kp244.lentTo m g).getD i 0)).lent with
          | some z => Kp244.charge m (Kp244.drumAt m ((Kp244.lentTo m g).getD i 0)) z.2.1
          | none => 0) = _
        rw [hz]
        rfl
      rw [e] at q
      exact q
    · intro H2 sm2 hH
      have smH := sm.trans sm2
      refine ⟨_, rfl, p, a.CG, dg, _, _, rfl, smH _ _ hgd, T.cl_Guest, T.n_Guest_owed, gF_owed _, _, rfl, p, a.CG, dg, _, _, rfl, smH _ _ hgd, T.cl_Guest, T.n_Guest_paid, gF_paid _, _, _, rfl, rfl, _, rfl, D, (((Kp244.lentTo m g).map ch).map fun (n : Nat) => (n : Int)), rfl, SqL.of ?_, _, _, rfl, rfl, (by show 2 ≤ sizeLine; decide), fun q hq => ?_⟩
      · rw [hH, nl_length, filter_all, map_range_getD (fun d => V.int (ch d : Nat)), List.map_map, List.map_map]
        rfl
      · refine k.yes hy rfl (Int.le_refl 0) (smH.trans (same_upd hq)) (smH.free hq) ?_
        rw [upd_same, sum_cast]
        have e : Kp244.wouldOwe m g = (Kp244.guestAt m g).owed - (Kp244.guestAt m g).paid + ((Kp244.lentTo m g).map ch).sum := by
          unfold Kp244.wouldOwe
          rw [sumOf_eq]
          rfl
        show some (HO.lst [.int 0, .int (((Kp244.guestAt m g).owed : Int) - ((Kp244.guestAt m g).paid : Int) + (((Kp244.lentTo m g).map ch).sum : Nat))]) = some (HO.lst [.int 0, .int ((Kp244.wouldOwe m g : Nat) : Int)])
        rw [e]
        have e2 : ((Kp244.guestAt m g).owed : Int) - ((Kp244.guestAt m g).paid : Int) + (((Kp244.lentTo m g).map ch).sum : Nat) = (((Kp244.guestAt m g).owed - (Kp244.guestAt m g).paid + ((Kp244.lentTo m g).map ch).sum : Nat) : Int) := by omega
        rw [e2]
theorem ok_Yard_told_lent (T : Txt K mg a) : FnOk P w K mg base (L2.CX P w) 5 a.f_Yard_told_lent a.fd_Yard_told_lent ["self", "number"] (sp_Yard_told_lent a) := by
  refine T.d_Yard_told_lent.F.okX sc_Yard_told_lent (fun vs H Q E h => ?_) (fun cdv A outer s H vs Q E hr h => ⟨_, (pss_cons (ps_expr (pe_meth (pv 0) T.cl_Yard T.m_Yard_guest_at (ok_Yard_guest_at T) (hr.mono (by decide)) T.d_Yard_guest_at.b .nil (passes_call (takes_of rfl rfl rfl rfl) (fun _ _ _ _ h => h)) (pa_cons (pv 1) pa_nil)))
      (pss_one (ps_ret (pe_call (ok_told_list T) (hr.mono (by decide)) rfl T.g_told_list T.d_told_list.F.kp T.d_told_list.b .nil pass0 (pa_cons (pe_meth (pv 0) T.cl_Yard T.m_Yard_lent_to (ok_Yard_lent_to T) (hr.mono (by decide)) T.d_Yard_lent_to.b .nil pass0 (pa_cons (pv 1) pa_nil)) pa_nil))))), ?_⟩)
  · obtain ⟨s', m, g, rfl, _⟩ := h
    rfl
  · obtain ⟨s', m, g, rfl, hy, ok, k⟩ := h
    obtain ⟨dx, hyd⟩ := hy.yard
    have k : Ans1 a H s' m (some m, if Kp244.isGuest m g = false then Kp244.say (-2) else Kp244.tellAll (Kp244.lentTo m g)) Q E := k
    refine ⟨_, rfl, s'.y, dx, _, rfl, hyd, yF_no _ _ _ (by decide +kernel), _, rfl, s', m, g, rfl, hy, fun p hg hp => ?_, fun hg => k.no (by decide) (if_pos (isGuest_no hg))⟩
    rw [if_no (isGuest_of hg)] at k
    have hlen := lentTo_length m g
    have hdn := ok.dn
    refine ⟨_, rfl, s'.y, dx, _, rfl, hyd, yF_no _ _ _ (by decide +kernel), _, rfl, s', m, g, rfl, hy, ok, fun H1 l sm hl => ?_⟩
    refine ⟨l, _, rfl, hl, by omega, fun H2 q s2 hq h2 => ?_⟩
    refine k.yes hy rfl (Int.natCast_nonneg _) (sm.trans s2) (sm.free hq) ?_
    rw [h2, tell_nl]
theorem ok_Yard_told_eaten (T : Txt K mg a) : FnOk P w K mg base (L2.CX P w) 6 a.f_Yard_told_eaten a.fd_Yard_told_eaten ["self", "number"] (sp_Yard_told_eaten a) := by
  refine T.d_Yard_told_eaten.F.okX sc_Yard_told_eaten (fun vs H Q E h => ?_) (fun cdv A outer s H vs Q E hr h => ⟨_, (pss_cons (ps_set (i := 2) sc_Yard_told_eaten.nd rfl (Or.inl rfl) (pe_meth (pv 0) T.cl_Yard T.m_Yard_lent_drum (ok_Yard_lent_drum T) (hr.mono (by decide)) T.d_Yard_lent_drum.b .nil (passes_call (takes_of rfl rfl rfl rfl) (fun _ _ _ _ h => h)) (pa_cons (pv 1) pa_nil)))
      (pss_cons (ps_expr (pe_call (ok_need T) (hr.mono (by decide)) rfl T.g_need T.d_need.F.kp T.d_need.b .nil (passes_call (takes_of rfl rfl rfl rfl) (fun _ _ _ _ h => h)) (pa_cons (pe_cmpR op_gt (pe_fld (pv 2) rfl) pe_int (nomark _)) (pa_cons (pe_cst T.c_NONE_SUCH) pa_nil))))
      (pss_one (ps_ret (pe_lst (pa_cons pe_int (pa_cons (pe_op op_sub (pe_op op_addN (pe_fld (pv 2) rfl) (pe_fld (pv 0) rfl)) (pe_op op_fdivN (pe_un un_neg (pe_fld (pv 2) rfl)) (pe_fld (pv 2) rfl))) pa_nil))))))), ?_⟩)
  · obtain ⟨s', m, d, rfl, _⟩ := h
    rfl
  · obtain ⟨s', m, d, rfl, hy, ok, k⟩ := h
    obtain ⟨dx, hyd⟩ := hy.yard
    have k : Ans1 a H s' m (some m, if Kp244.isDrum m d = false then Kp244.say (-2) else match (Kp244.drumAt m d).lent with
      | none => Kp244.say (-6)
      | some z => match Kp244.eaten m (Kp244.drumAt m d) z.2.1 with
        | some n => ⟨0, Kp244.ints [n]⟩
        | none => Kp244.say (-33)) Q E := k
    refine ⟨_, rfl, s'.y, dx, _, rfl, hyd, yF_no _ _ _ (by decide +kernel), _, rfl, s', m, d, rfl, hy, fun p z hd hp hz => ?_, fun hd => k.no (by decide) (if_pos (isDrum_no hd)), fun hd hz => k.no (by decide) ?_⟩
    · rw [if_no (isDrum_of hd), hz] at k
      obtain ⟨p', hp', hdr⟩ := hy.drums.get hd
      rw [hp] at hp'
      cases hp'
      obtain ⟨dd, s1, s2, hpd, hl⟩ := id hdr
      obtain ⟨rfl, rfl⟩ := hl z hz
      have g := ok.good _ (drumAt_mem hd)
      have hdl := g.daily
      have k : Ans1 a H s' m (some m, match (if (Kp244.drumAt m d).daily = 0 then none else some (z.2.1 + m.free + ((Kp244.drumAt m d).pledge + (Kp244.drumAt m d).daily - 1) / (Kp244.drumAt m d).daily)) with
        | some n => ⟨0, Kp244.ints [n]⟩
        | none => Kp244.say (-33)) Q E := k
      refine ⟨_, rfl, p, a.CD, dd, _, _, rfl, hpd, T.cl_Drum, T.n_Drum_daily, dF_daily _ _ _ _, _, _, rfl, rfl, _, _, rfl, fun hb => ?_, fun hb => k.no (by decide) ?_⟩
      · have hb := of_decide_eq_true hb
        rw [if_neg (by omega)] at k
        refine ⟨_, rfl, p, a.CD, dd, _, _, rfl, hpd, T.cl_Drum, T.n_Drum_since, dF_since _ _ _ _, _, rfl, s'.y, a.CY, dx, _, _, rfl, hyd, T.cl_Yard, T.n_Yard_free_days, yF_free _ _ _, _, _, rfl, rfl, ?_⟩
        refine ⟨_, rfl, p, a.CD, dd, _, _, rfl, hpd, T.cl_Drum, T.n_Drum_pledge, dF_pledge _ _ _ _, _, rfl, _, rfl, p, a.CD, dd, _, _, rfl, hpd, T.cl_Drum, T.n_Drum_daily, dF_daily _ _ _ _, _, _, rfl, rfl, ⟨by omega, by omega⟩, _, _, rfl, rfl, ?_⟩
        refine ⟨(by show 2 ≤ sizeLine; decide), fun q hq => k.yes hy rfl (Int.le_refl 0) (same_upd hq) hq ?_⟩
        rw [upd_same, ceil_div _ _ (by omega)]
        generalize ((Kp244.drumAt m d).pledge + (Kp244.drumAt m d).daily - 1) / (Kp244.drumAt m d).daily = c
        show some (HO.lst [.int 0, .int ((z.2.1 + m.free : Nat) - -(c : Int))]) = some (HO.lst [.int 0, .int ((z.2.1 + m.free + c : Nat) : Int)])
        have e2 : (((z.2.1 + m.free : Nat) : Int) - -(c : Int)) = ((z.2.1 + m.free + c : Nat) : Int) := by omega
        rw [e2]
      · have hb := of_decide_eq_false hb
        rw [if_pos (by omega)]
    · rw [if_no (isDrum_of hd), hz]
theorem ok_Yard_told_drum (T : Txt K mg a) : FnOk P w K mg base (L2.CX P w) 5 a.f_Yard_told_drum a.fd_Yard_told_drum ["self", "number"] (sp_Yard_told_drum a) := by
  refine T.d_Yard_told_drum.F.okX sc_Yard_told_drum (fun vs H Q E h => ?_) (fun cdv A outer s H vs Q E hr h => ⟨_, (pss_cons (ps_set (i := 2) sc_Yard_told_drum.nd rfl (Or.inl rfl) (pe_meth (pv 0) T.cl_Yard T.m_Yard_drum_at (ok_Yard_drum_at T) (hr.mono (by decide)) T.d_Yard_drum_at.b .nil (passes_call (takes_of rfl rfl rfl rfl) (fun _ _ _ _ h => h)) (pa_cons (pv 1) pa_nil)))
      (pss_cons (ps_set (i := 3) sc_Yard_told_drum.nd rfl (Or.inl rfl) (pe_ifExp (pt_cmpR op_isN (pe_fld (pv 2) rfl) pe_non (nomark _)) pe_int (pe_op op_addN (pe_fld (pv 2) rfl) pe_int)))
      (pss_one (ps_ret (pe_lst (pa_cons (pv 3) (pa_cons (pe_fld (pv 2) rfl) (pa_cons (pe_fld (pv 2) rfl) (pa_cons (pe_fld (pv 2) rfl) (pa_cons (pe_fld (pv 2) rfl) (pa_cons (pe_fld (pv 2) rfl) pa_nil))))))))))), ?_⟩)
  · obtain ⟨s', m, d, rfl, _⟩ := h
    rfl
  · obtain ⟨s', m, d, rfl, hy, ok, k⟩ := h
    obtain ⟨dx, hyd⟩ := hy.yard
    have k : Ans1 a H s' m (some m, if Kp244.isDrum m d = false then Kp244.say (-2) else
      ⟨(match (Kp244.drumAt m d).lent with
        | some z => (z.1 + 1 : Nat)
        | none => 0), Kp244.ints [(Kp244.drumAt m d).core, (Kp244.drumAt m d).flange, (Kp244.drumAt m d).wide, (Kp244.drumAt m d).daily, (Kp244.drumAt m d).pledge]⟩) Q E := k
    refine ⟨_, rfl, s'.y, dx, _, rfl, hyd, yF_no _ _ _ (by decide +kernel), _, rfl, s', m, d, rfl, hy, fun p hd hp => ?_, fun hd => k.no (by decide) (if_pos (isDrum_no hd))⟩
    rw [if_no (isDrum_of hd)] at k
    obtain ⟨p', hp', hdr⟩ := hy.drums.get hd
    rw [hp] at hp'
    cases hp'
    obtain ⟨dd, s1, s2, hpd, hl⟩ := id hdr
    refine ⟨_, rfl, p, a.CD, dd, _, _, rfl, hpd, T.cl_Drum, T.n_Drum_guest, dF_guest _ _ _ _, rfl, _, rfl, ?_⟩
    rw [guestV_free]
    cases c : (Kp244.drumAt m d).lent with
    | none =>
      rw [c] at k
      have e1 : Kp244.isFree (Kp244.drumAt m d) = true := by
        unfold Kp244.isFree
        rw [c]
        rfl
      rw [e1]
      refine if_true_of rfl ?_
      refine ⟨_, rfl, _, rfl, p, a.CD, dd, _, _, rfl, hpd, T.cl_Drum, T.n_Drum_core, dF_core _ _ _ _, _, rfl, p, a.CD, dd, _, _, rfl, hpd, T.cl_Drum, T.n_Drum_flange, dF_flange _ _ _ _, _, rfl, p, a.CD, dd, _, _, rfl, hpd, T.cl_Drum, T.n_Drum_wide, dF_wide _ _ _ _, _, rfl, p, a.CD, dd, _, _, rfl, hpd, T.cl_Drum, T.n_Drum_daily, dF_daily _ _ _ _, _, rfl, p, a.CD, dd, _, _, rfl, hpd, T.cl_Drum, T.n_Drum_pledge, dF_pledge _ _ _ _, (by show 6 ≤ sizeLine; decide), fun q hq => ?_⟩
      exact k.yes hy rfl (Int.le_refl 0) (same_upd hq) hq upd_same
    | some z =>
      rw [c] at k
      have e1 : Kp244.isFree (Kp244.drumAt m d) = false := by
        unfold Kp244.isFree
        rw [c]
        rfl
      have eg : guestV (Kp244.drumAt m d) = .int (z.1 : Int) := by
        unfold guestV
        rw [c]
      rw [e1]
      refine if_false_of rfl ?_
      refine ⟨_, rfl, p, a.CD, dd, _, _, rfl, hpd, T.cl_Drum, T.n_Drum_guest, dF_guest _ _ _ _, z.1, 1, eg, rfl, ?_⟩
      refine ⟨_, rfl, _, rfl, p, a.CD, dd, _, _, rfl, hpd, T.cl_Drum, T.n_Drum_core, dF_core _ _ _ _, _, rfl, p, a.CD, dd, _, _, rfl, hpd, T.cl_Drum, T.n_Drum_flange, dF_flange _ _ _ _, _, rfl, p, a.CD, dd, _, _, rfl, hpd, T.cl_Drum, T.n_Drum_wide, dF_wide _ _ _ _, _, rfl, p, a.CD, dd, _, _, rfl, hpd, T.cl_Drum, T.n_Drum_daily, dF_daily _ _ _ _, _, rfl, p, a.CD, dd, _, _, rfl, hpd, T.cl_Drum, T.n_Drum_pledge, dF_pledge _ _ _ _, (by show 6 ≤ sizeLine; decide), fun q hq => ?_⟩
      exact k.yes hy rfl (Int.natCast_nonneg _) (same_upd hq) hq upd_same
theorem ok_Yard_told_sums (T : Txt K mg a) : FnOk P w K mg base CX0 1 a.f_Yard_told_sums a.fd_Yard_told_sums ["self"] (sp_Yard_told_sums a) := by
  refine T.d_Yard_told_sums.F.ok sc_Yard_told_sums (fun vs H Q E h => ?_) (fun cdv A outer s H vs Q E hr h => ⟨_, (pss_cons (ps_set (i := 1) sc_Yard_told_sums.nd rfl (Or.inl rfl) (pe_callB (cr_sum rfl) (by rfl) T.b_sum (by decide +kernel) (pa_cons (pe_lc (own := [("guest", 3)]) (g := gName 3) (tt := tYes) rfl sc_Yard_told_sums.nd (pi_list (pe_fld (pv 0) rfl)) (blkOk_by (own := [("guest", 3)]) (N := ["self", "owed", "paid", "guest"]) (sc := defScope s_Yard_told_sums) (by decide +kernel)) (fun _ _ _ _ _ => (pg_name (i := 3) sc_Yard_told_sums.nd rfl (Or.inl rfl))) (fun _ _ _ _ _ => pts_nil) (fun _ _ _ _ _ => (pe_fldK K rfl (pv 3) rfl))) pa_nil)))
      (pss_cons (ps_set (i := 2) sc_Yard_told_sums.nd rfl (Or.inl rfl) (pe_callB (cr_sum rfl) (by rfl) T.b_sum (by decide +kernel) (pa_cons (pe_lc (own := [("guest", 3)]) (g := gName 3) (tt := tYes) rfl sc_Yard_told_sums.nd (pi_list (pe_fld (pv 0) rfl)) (blkOk_by (own := [("guest", 3)]) (N := ["self", "owed", "paid", "guest"]) (sc := defScope s_Yard_told_sums) (by decide +kernel)) (fun _ _ _ _ _ => (pg_name (i := 3) sc_Yard_told_sums.nd rfl (Or.inl rfl))) (fun _ _ _ _ _ => pts_nil) (fun _ _ _ _ _ => (pe_fldK K rfl (pv 3) rfl))) pa_nil)))
      (pss_one (ps_ret (pe_lst (pa_cons (pe_fld (pv 0) rfl) (pa_cons (pe_callB call_len_seq (by rfl) T.b_len PySem.boot_len (pa_cons (pe_fld (pv 0) rfl) pa_nil)) (pa_cons (pe_callB call_len_seq (by rfl) T.b_len PySem.boot_len (pa_cons (pe_fld (pv 0) rfl) pa_nil)) (pa_cons (pe_fld (pv 0) rfl) (pa_cons (pv 1) (pa_cons (pv 2) pa_nil))))))))))), ?_⟩)
  · obtain ⟨s', m, rfl, _⟩ := h
    rfl
  · obtain ⟨s', m, rfl, hy, ok, k⟩ := h
    obtain ⟨dx, hyd⟩ := hy.yard
    have k : Ans1 a H s' m (some m, ⟨(m.day : Int), Kp244.ints [m.drums.length, m.guests.length, m.kept, Kp244.sumOf (m.guests.map fun g => g.owed), Kp244.sumOf (m.guests.map fun g => g.paid)]⟩) Q E := k
    have hgn := ok.gn
    have hgl : (s'.gs.map V.ref).length = m.guests.length := by rw [List.length_map, hy.guests.1]
    have hdl : (s'.ds.map V.ref).length = m.drums.length := by rw [List.length_map, hy.drums.1]
    refine ⟨_, rfl, s'.y, a.CY, dx, _, _, rfl, hyd, T.cl_Yard, T.n_Yard_guests, yF_guests _ _ _, s'.gl, rfl, ⟨_, SqL.of hy.gl⟩, fun D hD => ?_⟩
    refine lc_fun (walk_list (xs := s'.gs.map V.ref)) (fun i v H' => ∃ p, v = .ref p ∧ s'.gs[i]? = some p) (fun _ => true) (fun i => .int ((Kp244.guestAt m i).owed : Nat)) hD (by rw [hgl]; omega) (fun H' s => SqL.of (s _ _ hy.gl)) ?_ ?_ ?_
    · intro i Ha v Hb hi sm' y
      obtain ⟨s2, e⟩ := y_at y
      obtain ⟨p, hp, rfl⟩ := refs_at e
      exact ⟨s2, p, rfl, hp⟩
    · rintro i v Ha N1 N2 hi sm' ⟨p, rfl, hp⟩ k1 k2
      rw [hgl] at hi
      obtain ⟨p', hp', dg, hg⟩ := (hy.same sm').guests.get hi
      rw [hp] at hp'
      cases hp'
      exact ⟨rfl, _, rfl, p, a.CG, dg, _, _, rfl, hg, T.cl_Guest, T.n_Guest_owed, gF_owed _, k2 _ (Same.refl _) rfl⟩
    intro H1 sm1 hH1
    refine ⟨D, ((m.guests.map fun g => g.owed).map fun (n : Nat) => (n : Int)), rfl, SqL.of ?_, ?_⟩
    · rw [hH1, hgl, filter_all, map_guests m fun g => V.int (g.owed : Nat), List.map_map, List.map_map]
      rfl
    have hy1 := hy.same sm1
    refine ⟨_, rfl, s'.y, a.CY, dx, _, _, rfl, sm1 _ _ hyd, T.cl_Yard, T.n_Yard_guests, yF_guests _ _ _, s'.gl, rfl, ⟨_, SqL.of hy1.gl⟩, fun D2 hD2 => ?_⟩
    refine lc_fun (walk_list (xs := s'.gs.map V.ref)) (fun i v H' => ∃ p, v = .ref p ∧ s'.gs[i]? = some p) (fun _ => true) (fun i => .int ((Kp244.guestAt m i).paid : Nat)) hD2 (by rw [hgl]; omega) (fun H' s => SqL.of (s _ _ hy1.gl)) ?_ ?_ ?_
    · intro i Ha v Hb hi sm' y
      obtain ⟨s2, e⟩ := y_at y
      obtain ⟨p, hp, rfl⟩ := refs_at e
      exact ⟨s2, p, rfl, hp⟩
    · rintro i v Ha N1 N2 hi sm' ⟨p, rfl, hp⟩ k1 k2
      rw [hgl] at hi
      obtain ⟨p', hp', dg, hg⟩ := (hy1.same sm').guests.get hi
      rw [hp] at hp'
      cases hp'
      exact ⟨rfl, _, rfl, p, a.CG, dg, _, _, rfl, hg, T.cl_Guest, T.n_Guest_paid, gF_paid _, k2 _ (Same.refl _) rfl⟩
    intro H2 sm2 hH2
    refine ⟨D2, ((m.guests.map fun g => g.paid).map fun (n : Nat) => (n : Int)), rfl, SqL.of ?_, ?_⟩
    · rw [hH2, hgl, filter_all, map_guests m fun g => V.int (g.paid : Nat), List.map_map, List.map_map]
      rfl
    have smH := sm1.trans sm2
    have hy2 := hy.same smH
    have hyd2 := smH _ _ hyd
    refine ⟨_, rfl, s'.y, a.CY, dx, _, _, rfl, hyd2, T.cl_Yard, T.n_Yard_today, yF_today _ _ _, _, rfl, s'.y, a.CY, dx, _, _, rfl, hyd2, T.cl_Yard, T.n_Yard_drums, yF_drums _ _ _, s'.dl, _, rfl, .inl (SqL.of hy2.dl), _, rfl, s'.y, a.CY, dx, _, _, rfl, hyd2, T.cl_Yard, T.n_Yard_guests, yF_guests _ _ _, s'.gl, _, rfl, .inl (SqL.of hy2.gl), _, rfl, s'.y, a.CY, dx, _, _, rfl, hyd2, T.cl_Yard, T.n_Yard_kept, yF_kept _ _ _, _, rfl, _, rfl, (by show 6 ≤ sizeLine; decide), fun q hq => ?_⟩
    refine k.yes hy rfl (Int.natCast_nonneg _) (smH.trans (same_upd hq)) (smH.free hq) ?_
    rw [upd_same, sum_cast, sum_cast, hgl, hdl]
    show _ = some (HO.lst [.int (m.day : Int), .int (m.drums.length : Int), .int (m.guests.length : Int), .int (m.kept : Int), .int (Kp244.sumOf (m.guests.map fun g => g.owed) : Int), .int (Kp244.sumOf (m.guests.map fun g => g.paid) : Int)])
    rw [sumOf_eq, sumOf_eq]
end
end Ld
/-! The yard's choices: fit, plan, costs. -/
namespace Ld
open PySem PySem.Spec PyProof.Rows L2
def sp_Yard_plan (a : Ad) : Sp := fun vs H Q E => ∃ (s : YS) (m : Kp244.Yard) (t : Nat) (l : Addr) (gv : List Nat), vs = [.ref s.y, ni t, .ref l] ∧ H l = some (.lst (nl gv)) ∧ gv.length = 5 ∧ YardAt a H s m ∧ YardOk m ∧
  (Kp244.okLengths t (gv.filter fun x => x != 0) = false → Refuse a H (-22) E) ∧
  (Kp244.okLengths t (gv.filter fun x => x != 0) = true → Kp244.best m t (gv.filter fun x => x != 0) = none → Refuse a H (-33) E) ∧
  ∀ p, Kp244.okLengths t (gv.filter fun x => x != 0) = true → Kp244.best m t (gv.filter fun x => x != 0) = some p → ∀ H' q, Same H H' → H' q = some (.lst (nl p)) → Q (.ref q) H'
def sp_Yard_told_costs (a : Ad) : Sp := fun vs H Q E => ∃ (s : YS) (m : Kp244.Yard) (t : Nat) (l : Addr) (gv : List Nat), vs = [.ref s.y, ni t, .ref l] ∧ H l = some (.lst (nl gv)) ∧ gv.length = 5 ∧ YardAt a H s m ∧ YardOk m ∧
  (Kp244.okLengths t (gv.filter fun x => x != 0) = false → Refuse a H (-22) E) ∧
  (Kp244.okLengths t (gv.filter fun x => x != 0) = true → Kp244.best m t (gv.filter fun x => x != 0) = none → Refuse a H (-33) E) ∧
  ∀ p, Kp244.okLengths t (gv.filter fun x => x != 0) = true → Kp244.best m t (gv.filter fun x => x != 0) = some p → ∀ H' q, Same H H' → H q = none → H' q = some (.lst [ni (Kp244.used m p).length, ni (Kp244.daily m p)]) → Q (.ref q) H'
def sp_Yard_fit (a : Ad) : Sp := fun vs H Q E => ∃ (s : YS) (m : Kp244.Yard) (t n : Nat), vs = [.ref s.y, ni t, ni n] ∧ YardAt a H s m ∧ YardOk m ∧ Ans1 a H s m (Kp244.step (some m) (.fit t n)) Q E
theorem ok_not_thick {t : Nat} {l : List Nat} (h : ¬ (1 ≤ t ∧ t ≤ 200)) : Kp244.okLengths t l = false := by
  unfold Kp244.okLengths
  by_cases c : 1 ≤ t
  · have e : decide (t ≤ 200) = false := decide_eq_false (by omega)
    rw [e]
    simp
  · have e : decide (1 ≤ t) = false := decide_eq_false c
    rw [e]
    simp
theorem ok_lengths {t : Nat} {gv : List Nat} (h : 1 ≤ t ∧ t ≤ 200) (h5 : gv.length = 5) : (Kp244.okLengths t (gv.filter fun x => x != 0) = true) ↔ ∀ x ∈ gv, x ≤ 100000 := by
  unfold Kp244.okLengths
  have hl : (gv.filter fun x => x != 0).length ≤ Kp244.LENGTHS := Nat.le_trans (List.length_filter_le _ _) (by rw [h5]; exact Nat.le_refl 5)
  rw [decide_eq_true h.1, decide_eq_true h.2, decide_eq_true hl, Bool.true_and, Bool.true_and, Bool.true_and, List.all_eq_true]
  constructor
  · intro k x hx
    by_cases c : x = 0
    · omega
    · have := k x (List.mem_filter.mpr ⟨hx, by simpa using c⟩)
      rw [Bool.and_eq_true] at this
      exact of_decide_eq_true this.2
  · intro k x hx
    obtain ⟨h1, h2⟩ := List.mem_filter.mp hx
    have h2 : x ≠ 0 := by simpa using h2
    rw [Bool.and_eq_true]
    exact ⟨decide_eq_true (by omega), decide_eq_true (k x h1)⟩
/-! ### rows of pairs -/
theorem lay_pairs : ∀ ks : List (Int × Int), PyData.canLayAll0 (ks.map PySem.W.Datum.toD) = true
  | [] => rfl
  | k :: ks => by
    have ih := lay_pairs ks
    show PyData.canLayAll0 (PyData.tuple [.int k.1, .int k.2] :: ks.map PySem.W.Datum.toD) = true
    simp only [PyData.canLayAll0, PyData.canLay0, ih, Bool.and_self]
theorem shaped_pairs (ks : List (Int × Int)) : SeqAt.shaped (.list (ks.map PySem.W.Datum.toD)) = true := by
  unfold SeqAt.shaped
  rw [Bool.and_eq_true]
  refine ⟨?_, decide_eq_true ?_⟩
  · simp only [PyData.canLay0]
    exact lay_pairs ks
  · simp only [PyData.depth]
    have := PySem.W.depthAll_map ks
    have e : PySem.W.Datum.depth (Int × Int) = 1 := rfl
    omega
theorem eqv_nil (ks : List (Int × Int)) : PyData.eqv (.list (ks.map PySem.W.Datum.toD)) (.list []) = ks.isEmpty := by
  cases ks with
  | nil => simp only [List.map_nil, PyData.eqv, PyData.eqvAll, List.isEmpty_nil]
  | cons k ks => simp only [List.map_cons, PyData.eqv, PyData.eqvAll, List.isEmpty_cons]
/-- new pairs, one a place -/
theorem pairs_of {H : Hp} {f g : Nat → Nat} : ∀ {l : List Nat} {acc : List V}, Paired (fun i y => ∃ q, y = V.ref q ∧ H q = some (.tup [.int (f i : Int), .int (g i : Int)])) l acc →
    ∃ qs : List Addr, acc = qs.map V.ref ∧ qs.length = l.length ∧ ∀ (j i : Nat) (q : Addr), l[j]? = some i → qs[j]? = some q → H q = some (.tup [.int (f i : Int), .int (g i : Int)])
  | _, _, .nil => ⟨[], rfl, rfl, fun j i q h => by cases h⟩
  | _, _, .cons (a := i) ⟨q, e, hq⟩ t => by
    obtain ⟨qs, e2, h3, h4⟩ := pairs_of t
    refine ⟨q :: qs, by rw [e, e2]; rfl, by rw [List.length_cons, h3]; rfl, fun j x r h1 h2 => ?_⟩
    cases j with
    | zero => cases h1; cases h2; exact hq
    | succ j => exact h4 j x r h1 h2
section
variable {P : Program} {w : World} {K : PySem.W.Frag} {mg : Str → Option Value} {base : Heap} {a : Ad}
theorem ok_Yard_plan (T : Txt K mg a) : FnOk P w K mg base (L2.CX P w) 5 a.f_Yard_plan a.fd_Yard_plan ["self", "thick", "given"] (sp_Yard_plan a) := by
  refine T.d_Yard_plan.F.okX sc_Yard_plan (fun vs H Q E h => ?_) (fun cdv A outer s H vs Q E hr h => ⟨_, (pss_cons (ps_expr (pe_meth (pv 0) T.cl_Yard T.m_Yard_need_thick (ok_Yard_need_thick T) (hr.mono (by decide)) T.d_Yard_need_thick.b .nil (passes_call (takes_of rfl rfl rfl rfl) (fun _ _ _ _ h => h)) (pa_cons (pv 1) pa_nil)))
      (pss_cons (ps_expr (pe_call (ok_need T) (hr.mono (by decide)) rfl T.g_need T.d_need.F.kp T.d_need.b .nil (passes_call (takes_of rfl rfl rfl rfl) (fun _ _ _ _ h => h)) (pa_cons (pe_cmpR op_le (pe_callB (cr_max rfl) (by rfl) T.b_max (by decide +kernel) (pa_cons (pv 2) pa_nil)) (pe_cst T.c_LONGEST) (nomark _)) (pa_cons (pe_cst T.c_WRONG) pa_nil))))
      (pss_cons (ps_set (i := 3) sc_Yard_plan.nd rfl (Or.inl rfl) (pe_call (ok_best_plan T) (hr.mono (by decide)) rfl T.g_best_plan T.d_best_plan.F.kp T.d_best_plan.b .nil pass0 (pa_cons (pe_fld (pv 0) rfl) (pa_cons (pe_lc (own := [("length", 4)]) (g := gName 4) rfl sc_Yard_plan.nd (pi_list (pv 2)) (blkOk_by (own := [("length", 4)]) (N := ["self", "thick", "given", "found", "length"]) (sc := defScope s_Yard_plan) (by decide +kernel)) (fun _ _ _ _ _ => (pg_name (i := 4) sc_Yard_plan.nd rfl (Or.inl rfl))) (fun _ _ _ _ _ => pts_one (pt_cmpR op_gt (pv 4) pe_int (nomark _))) (fun _ _ _ _ _ => (pv 4))) (pa_cons (pv 1) pa_nil)))))
      (pss_cons (ps_expr (pe_call (ok_need T) (hr.mono (by decide)) rfl T.g_need T.d_need.F.kp T.d_need.b .nil (passes_call (takes_of rfl rfl rfl rfl) (fun _ _ _ _ h => h)) (pa_cons (pe_cmpR op_notN (pv 3) pe_non (nomark _)) (pa_cons (pe_cst T.c_NONE_SUCH) pa_nil))))
      (pss_one (ps_ret (pv 3))))))), ?_⟩)
  · obtain ⟨s', m, t, l, gv, rfl, _⟩ := h
    rfl
  · obtain ⟨s', m, t, l, gv, rfl, hl, h5, hy, ok, k22, k33, kS⟩ := h
    obtain ⟨dx, hyd⟩ := hy.yard
    have hdn := ok.dn
    refine ⟨_, rfl, s'.y, dx, _, rfl, hyd, yF_no _ _ _ (by decide +kernel), _, rfl, _, t, rfl, fun ht => ?_, fun ht => k22 (ok_not_thick ht)⟩
    refine ⟨_, rfl, l, gv.map fun (n : Nat) => (n : Int), rfl, SqL.of (by rw [hl, nl_ints]), (by rw [List.length_map]; omega), fun mx hmx hall => ?_⟩
    refine ⟨_, _, rfl, rfl, _, _, rfl, fun hb => ?_, fun hb => k22 ?_⟩
    rotate_left
    · have hb := of_decide_eq_false hb
      rw [Bool.eq_false_iff]
      intro z
      rw [ok_lengths ht h5] at z
      obtain ⟨x, hx, e⟩ := List.mem_map.mp hmx
      have := z x hx
      omega
    have hb := of_decide_eq_true hb
    have hok : Kp244.okLengths t (gv.filter fun x => x != 0) = true := by
      rw [ok_lengths ht h5]
      intro x hx
      have := hall _ (List.mem_map.mpr ⟨x, hx, rfl⟩)
      omega
    refine ⟨_, rfl, s'.y, a.CY, dx, _, _, rfl, hyd, T.cl_Yard, T.n_Yard_drums, yF_drums _ _ _, _, rfl, l, rfl, ⟨_, SqL.of hl⟩, fun D hD => ?_⟩
    refine lc_fun (walk_list (xs := nl gv)) (fun i v H' => v = .int (gv.getD i 0 : Nat)) (fun i => (gv.getD i 0) != 0) (fun i => .int (gv.getD i 0 : Nat)) hD (by rw [nl_length]; omega) (fun H' s => SqL.of (s _ _ hl)) ?_ ?_ ?_
    · intro i Ha v Hb hi sm' y
      obtain ⟨s2, e⟩ := y_at y
      obtain ⟨n, hn, rfl⟩ := nl_at e
      exact ⟨s2, by rw [getD_of hn]⟩
    · rintro i v Ha N1 N2 hi sm' rfl k1 k2
      refine ⟨rfl, _, rfl, _, _, rfl, rfl, _, rfl, ?_⟩
      by_cases c : gv.getD i 0 = 0
      · refine if_false_of (decide_eq_false (by omega)) (k1 _ (Same.refl _) ?_)
        rw [c]
        rfl
      · refine if_true_of (decide_eq_true (by omega)) ⟨_, rfl, k2 _ (Same.refl _) ?_⟩
        simpa using c
    · intro H2 sm2 hH
      have e1 := filter_range_getD (fun x => x != 0) (fun d => V.int (d : Int)) gv
      rw [nl_length, e1] at hH
      have hls : (gv.filter fun x => x != 0).length ≤ 5 := Nat.le_trans (List.length_filter_le _ _) (by omega)
      refine ⟨_, rfl, s'.dl, D, s'.ds, m, gv.filter (fun x => x != 0), t, rfl, sm2 _ _ hy.dl, (hy.same sm2).drums, ok.good, hdn, hH, hls, ht.1, ht.2, fun H3 s3 hb => ?_, fun H3 q p s3 hb hq => ?_⟩
      · refine ⟨_, rfl, rfl, _, _, rfl, (fun hb => by cases hb), fun _ => ?_⟩
        exact (k33 hok (by rw [best_eq]; exact hb)).mono (sm2.trans s3)
      · refine ⟨_, rfl, rfl, _, _, rfl, fun _ => ?_, fun hb => by cases hb⟩
        exact ⟨_, rfl, kS p hok (by rw [best_eq]; exact hb) H3 q (sm2.trans s3) hq⟩
theorem ok_Yard_told_costs (T : Txt K mg a) : FnOk P w K mg base (L2.CX P w) 6 a.f_Yard_told_costs a.fd_Yard_told_costs ["self", "thick", "given"] (sp_Yard_told_costs a) := by
  refine T.d_Yard_told_costs.F.okX sc_Yard_told_costs (fun vs H Q E h => ?_) (fun cdv A outer s H vs Q E hr h => ⟨_, (pss_cons (ps_set (i := 3) sc_Yard_told_costs.nd rfl (Or.inl rfl) (pe_meth (pv 0) T.cl_Yard T.m_Yard_plan (ok_Yard_plan T) (hr.mono (by decide)) T.d_Yard_plan.b .nil (passes_call (takes_of rfl rfl rfl rfl) (fun _ _ _ _ h => h)) (pa_cons (pv 1) (pa_cons (pv 2) pa_nil))))
      (pss_one (ps_ret (pe_lst (pa_cons (pe_call (ok_drum_count T) (hr.mono (by decide)) rfl T.g_drum_count T.d_drum_count.F.kp T.d_drum_count.b .nil pass0 (pa_cons (pv 3) pa_nil)) (pa_cons (pe_call (ok_daily_cost T) (hr.mono (by decide)) rfl T.g_daily_cost T.d_daily_cost.F.kp T.d_daily_cost.b .nil pass0 (pa_cons (pe_fld (pv 0) rfl) (pa_cons (pv 3) pa_nil))) pa_nil)))))), ?_⟩)
  · obtain ⟨s', m, t, l, gv, rfl, _⟩ := h
    rfl
  · obtain ⟨s', m, t, l, gv, rfl, hl, h5, hy, ok, k22, k33, kS⟩ := h
    obtain ⟨dx, hyd⟩ := hy.yard
    refine ⟨_, rfl, s'.y, dx, _, rfl, hyd, yF_no _ _ _ (by decide +kernel), _, rfl, _, rfl, s', m, t, l, gv, rfl, hl, h5, hy, ok, k22, k33, fun p hok hb H1 q1 s1 hq1 => ?_⟩
    have hb2 := hb
    rw [best_eq] at hb2
    obtain ⟨hpl, hpf⟩ := bestP_mem hb2
    have hp10 : p.length ≤ 10 := by
      rw [hpl]
      exact Nat.le_trans (List.length_filter_le _ _) (by omega)
    have hplt : ∀ d ∈ p, d < m.drums.length := fun d hd => (mem_frees.mp (hpf d hd)).1
    refine ⟨_, rfl, q1, p, rfl, hq1, hp10, fun H2 s2 => ?_⟩
    refine ⟨_, rfl, s'.y, a.CY, dx, _, _, rfl, (s1.trans s2) _ _ hyd, T.cl_Yard, T.n_Yard_drums, yF_drums _ _ _, _, rfl, s'.dl, q1, s'.ds, m, p, rfl, (s1.trans s2) _ _ hy.dl, (hy.same (s1.trans s2)).drums, s2 _ _ hq1, hp10, hplt, fun H3 s3 => ?_⟩
    refine ⟨(by show 2 ≤ sizeLine; decide), fun q hq => ?_⟩
    have sm := (s1.trans s2).trans s3
    refine kS p hok hb _ q (sm.trans (same_upd hq)) (sm.free hq) ?_
    rw [upd_same, count_eq hplt, cost_eq hplt]
theorem ok_Yard_fit (T : Txt K mg a) : FnOk P w K mg base (L2.CX P w) 5 a.f_Yard_fit a.fd_Yard_fit ["self", "thick", "metres"] (sp_Yard_fit a) := by
  refine T.d_Yard_fit.F.okX sc_Yard_fit (fun vs H Q E h => ?_) (fun cdv A outer s H vs Q E hr h => ⟨_, (pss_cons (ps_expr (pe_meth (pv 0) T.cl_Yard T.m_Yard_need_thick (ok_Yard_need_thick T) (hr.mono (by decide)) T.d_Yard_need_thick.b .nil (passes_call (takes_of rfl rfl rfl rfl) (fun _ _ _ _ h => h)) (pa_cons (pv 1) pa_nil)))
      (pss_cons (ps_expr (pe_call (ok_need T) (hr.mono (by decide)) rfl T.g_need T.d_need.F.kp T.d_need.b .nil (passes_call (takes_of rfl rfl rfl rfl) (fun _ _ _ _ h => h)) (pa_cons (pe_cmpR op_gt (pv 2) pe_int (nomark _)) (pa_cons (pe_cst T.c_WRONG) pa_nil))))
      (pss_cons (ps_setLc (i := 3) (own := [("number", 4)]) (g := gName 4) (tt := tYes) rfl sc_Yard_fit.nd rfl rfl (sw_true rfl rfl rfl (by decide +kernel)) (pi_list (pe_meth0 (pv 0) T.cl_Yard T.m_Yard_free_drums (ok_Yard_free_drums T) (hr.mono (by decide)) T.d_Yard_free_drums.b .nil pass0)) (blkOk_by (own := [("number", 4)]) (N := ["self", "thick", "metres", "rows", "number", "row"]) (sc := defScope s_Yard_fit) (by decide +kernel)) (fun _ _ _ _ _ => (pg_name (i := 4) sc_Yard_fit.nd rfl (Or.inl rfl))) (fun _ _ _ _ _ => pts_nil) (fun _ _ _ _ _ => (pe_tup (pa_cons (pe_meth (pe_ix (ix_listK K rfl) (pe_fldK K rfl (pv 0) rfl) (pv 4) (fun _ _ => rfl)) T.cl_Drum T.m_Drum_metres (ok_Drum_metres T) (hr.mono (by decide)) T.d_Drum_metres.b .nil pass0 (pa_cons (pv 1) pa_nil)) (pa_cons (pv 4) pa_nil)))))
      (pss_cons (ps_setLc (i := 3) (own := [("row", 5)]) (g := gName 5) rfl sc_Yard_fit.nd rfl rfl (sw_true rfl rfl rfl (by decide +kernel)) (pi_list (pv 3)) (blkOk_by (own := [("row", 5)]) (N := ["self", "thick", "metres", "rows", "number", "row"]) (sc := defScope s_Yard_fit) (by decide +kernel)) (fun _ _ _ _ _ => (pg_name (i := 5) sc_Yard_fit.nd rfl (Or.inl rfl))) (fun _ _ _ _ _ => pts_one (pt_cmpR op_ge (pe_ix (ix_tupK K rfl) (pv 5) pe_int (fun _ _ => rfl)) (pv 2) (nomark _))) (fun _ _ _ _ _ => (pv 5)))
      (pss_cons (ps_expr (pe_call (ok_need T) (hr.mono (by decide)) rfl T.g_need T.d_need.F.kp T.d_need.b .nil (passes_call (takes_of rfl rfl rfl rfl) (fun _ _ _ _ h => h)) (pa_cons (pe_cmpR (op_neD hr.units) (pv 3) (pe_lst pa_nil) (nomark _)) (pa_cons (pe_cst T.c_NONE_SUCH) pa_nil))))
      (pss_one (ps_ret (pe_lst (pa_cons (pe_ix ix_tup (pe_callB (cr_minT rfl hr.units) (by rfl) T.b_min (by decide +kernel) (pa_cons (pv 3) pa_nil)) pe_int (fun _ _ => rfl)) pa_nil))))))))), ?_⟩)
  · obtain ⟨s', m, t, n, rfl, _⟩ := h
    rfl
  · obtain ⟨s', m, t, n, rfl, hy, ok, k⟩ := h
    obtain ⟨dx, hyd⟩ := hy.yard
    have hdn := ok.dn
    have k : Ans1 a H s' m (some m, if t = 0 ∨ 200 < t ∨ n = 0 then Kp244.say (-22) else match Kp244.fit m t n with
      | some d => Kp244.say (d : Int)
      | none => Kp244.say (-33)) Q E := k
    refine ⟨_, rfl, s'.y, dx, _, rfl, hyd, yF_no _ _ _ (by decide +kernel), _, rfl, _, t, rfl, fun ht => ?_, fun ht => k.no (by decide) (if_pos (by omega))⟩
    refine ⟨_, rfl, _, _, rfl, rfl, _, _, rfl, fun hb => ?_, fun hb => k.no (by decide) (if_pos (by have := of_decide_eq_false hb; omega))⟩
    have hn := of_decide_eq_true hb
    rw [if_neg (by omega)] at k
    have hF6 : (frees m).length ≤ 6 := Nat.le_trans (filter_range_le _ _) hdn
    -- rows = [(.., number) for number in free_drums()]
    refine ⟨_, rfl, s'.y, dx, _, rfl, hyd, yF_no _ _ _ (by decide +kernel), s', m, rfl, hy, ok, fun H1 fq s1 hfq => ⟨fq, rfl, ⟨_, SqL.of hfq⟩, fun D hD => ?_⟩⟩
    refine lc_gen (walk_list (xs := nl (frees m))) (fun i v _ => v = .int ((frees m).getD i 0 : Nat)) (fun i y Hj => ∃ q, y = V.ref q ∧ q ≠ D ∧ Hj q = some (.tup [.int (roomOf m t ((frees m).getD i 0) : Int), .int ((frees m).getD i 0 : Int)])) (fun _ => true) hD (by rw [nl_length]; omega) (fun H' s => SqL.of (s _ _ hfq)) ?_ ?_ ?_ ?_
    · intro i Ha v Hb hi sm' y
      obtain ⟨s2, e⟩ := y_at y
      obtain ⟨n, hn, rfl⟩ := nl_at e
      exact ⟨s2, by rw [getD_of hn]⟩
    · rintro j y Ha Hb hk ⟨q, rfl, h1, h2⟩
      exact ⟨q, rfl, h1, hk q _ h1 h2⟩
    · rintro i v Ha N1 N2 hi sm' ⟨acc, hacc⟩ rfl k1 k2
      rw [nl_length] at hi
      have hmf := mem_frees.mp (List.mem_of_getElem? (get_of hi))
      have smA := s1.trans sm'
      obtain ⟨pd, h1, hdr⟩ := (hy.same smA).drums.get hmf.1
      obtain ⟨dd, t1, t2, h3, _⟩ := id hdr
      refine ⟨rfl, _, rfl, s'.y, a.CY, dx, _, _, rfl, smA _ _ hyd, T.cl_Yard, T.n_Yard_drums, yF_drums _ _ _, _, rfl, s'.dl, s'.ds.map V.ref, _, _, rfl, rfl, SqL.of (smA _ _ hy.dl), atI_nat (by rw [List.getElem?_map, h1]; rfl), pd, dd, _, rfl, h3, dF_no _ _ _ _ (by decide +kernel), ?_⟩
      refine ⟨_, rfl, pd, _, t, rfl, hdr, ok.good _ (drumAt_mem hmf.1), ht.1, ht.2, ?_⟩
      refine ⟨_, rfl, (by show 2 ≤ sizeLine; decide), fun q hq => ?_⟩
      refine k2 _ _ (same_upd hq) rfl ⟨q, rfl, fun e => ?_, upd_same⟩
      rw [e, hacc] at hq
      cases hq
    intro H2 acc s2 hacc hpair
    rw [nl_length, filter_all] at hpair
    obtain ⟨qs, rfl, hqsl, hqs⟩ := pairs_of (f := fun i => roomOf m t ((frees m).getD i 0)) (g := fun i => (frees m).getD i 0) (L2.Paired.mapP hpair fun j y ⟨q, h1, h2, h3⟩ => ⟨q, h1, h3⟩)
    rw [List.length_range] at hqsl
    have hqs' : ∀ (j : Nat) (q : Addr), qs[j]? = some q → H2 q = some (.tup [.int (roomOf m t ((frees m).getD j 0) : Int), .int ((frees m).getD j 0 : Int)]) := fun j q hq => by
      have hlt : j < (frees m).length := by
        rw [← hqsl]
        rcases Nat.lt_or_ge j qs.length with z | z
        · exact z
        · rw [List.getElem?_eq_none z] at hq; cases hq
      exact hqs j j q (by rw [List.getElem?_range hlt]) hq
    have sm2 := s1.trans s2
    -- rows = [row for row in rows if row[0] >= metres]
    refine ⟨_, rfl, D, rfl, ⟨_, SqL.of hacc⟩, fun D2 hD2 => ?_⟩
    refine lc_fun (walk_list (xs := qs.map V.ref)) (fun i v _ => v = .ref (qs.getD i 0)) (fun i => decide (n ≤ roomOf m t ((frees m).getD i 0))) (fun i => .ref (qs.getD i 0)) hD2 (by rw [List.length_map]; omega) (fun H' s => SqL.of (s _ _ hacc)) ?_ ?_ ?_
    · intro i Ha v Hb hi sm' y
      obtain ⟨s3, e⟩ := y_at y
      obtain ⟨q, hq, rfl⟩ := refs_at e
      exact ⟨s3, by rw [getD_of hq]⟩
    · rintro i v Ha N1 N2 hi sm' rfl k1 k2
      rw [List.length_map] at hi
      have hrow := sm' _ _ (hqs' i _ (get_of hi))
      refine ⟨rfl, _, rfl, qs.getD i 0, _, ((0 : Nat) : Int), _, rfl, rfl, SqT.of hrow, atI_nat (j := 0) rfl, _, rfl, _, _, rfl, rfl, _, rfl, ?_⟩
      by_cases c : n ≤ roomOf m t ((frees m).getD i 0)
      · exact if_true_of (decide_eq_true (by omega)) ⟨_, rfl, k2 _ (Same.refl _) (decide_eq_true c)⟩
      · exact if_false_of (decide_eq_false (by omega)) (k1 _ (Same.refl _) (decide_eq_false c))
    intro H3 s3 hH3
    have sm3 := sm2.trans s3
    rw [List.length_map, hqsl] at hH3
    -- the rows kept: their places
    generalize hjs : (List.range (frees m).length).filter (fun i => decide (n ≤ roomOf m t ((frees m).getD i 0))) = js at hH3
    have hjm : ∀ j ∈ js, j < (frees m).length ∧ n ≤ roomOf m t ((frees m).getD j 0) := fun j hj => by
      rw [← hjs, List.mem_filter] at hj
      exact ⟨List.mem_range.mp hj.1, of_decide_eq_true hj.2⟩
    have hfit : js.map (fun j => (frees m).getD j 0) = fitting m t n := by
      have e := filter_range_getD (fun d => decide (n ≤ roomOf m t d)) (fun d => d) (frees m)
      rw [hjs, List.map_id'] at e
      rw [e]
      unfold frees fitting
      rw [List.filter_filter]
      refine List.filter_congr fun d _ => ?_
      exact Bool.and_comm _ _
    let ks : List (Int × Int) := js.map fun j => ((roomOf m t ((frees m).getD j 0) : Int), ((frees m).getD j 0 : Int))
    have hts : js.map (fun i => V.ref (qs.getD i 0)) = (js.map fun i => qs.getD i 0).map V.ref := by
      rw [List.map_map]
      rfl
    rw [hts] at hH3
    have hat : ∀ (i : Nat) (t' : Addr) (kk : Int × Int), (js.map fun i => qs.getD i 0)[i]? = some t' → ks[i]? = some kk → H3 t' = some (.tup [.int kk.1, .int kk.2]) := fun i t' kk h1 h2 => by
      rw [List.getElem?_map] at h1
      have h2 : (js.map fun j => ((roomOf m t ((frees m).getD j 0) : Int), ((frees m).getD j 0 : Int)))[i]? = some kk := h2
      rw [List.getElem?_map] at h2
      cases e : js[i]? with
      | none => rw [e] at h1; cases h1
      | some j =>
        rw [e] at h1 h2
        have h1 := Option.some.inj h1
        have h2 := Option.some.inj h2
        subst h1 h2
        have hj := (hjm j (List.mem_of_getElem? e)).1
        exact s3 _ _ (hqs' j _ (get_of (by omega)))
    have hkl : (js.map fun i => qs.getD i 0).length = ks.length := by
      show _ = (js.map _).length
      rw [List.length_map, List.length_map]
    -- need(rows != [])
    refine ⟨_, rfl, Nat.zero_le _, fun e0 he0 => ?_⟩
    have s4 : Same H3 (upd H3 e0 (.lst [])) := same_upd he0
    refine ⟨.list (ks.map PySem.W.Datum.toD), .list [], .lst (SqL.of (s4 _ _ hH3)) (dpAll_pairs _ ks hkl fun i t' kk h1 h2 => s4 _ _ (hat i t' kk h1 h2)), .lst (SqL.of upd_same) .nil, shaped_pairs ks, rfl, ?_⟩
    rw [eqv_nil]
    refine ⟨_, _, rfl, fun hb => ?_, fun hb => ?_⟩
    · have hne : ks ≠ [] := by
        intro e
        rw [e] at hb
        cases hb
      refine ⟨_, rfl, D2, (js.map fun i => qs.getD i 0), ks, rfl, SqL.of (s4 _ _ hH3), hkl, (fun i t' kk h1 h2 => s4 _ _ (hat i t' kk h1 h2)), hne, fun i t' kk h1 h2 hmin => ?_⟩
      refine ⟨t', _, ((1 : Nat) : Int), _, rfl, rfl, SqT.of (s4 _ _ (hat i t' kk h1 h2)), atI_nat (j := 1) rfl, (by show 1 ≤ sizeLine; decide), fun q hq => ?_⟩
      have h2 : (js.map fun j => ((roomOf m t ((frees m).getD j 0) : Int), ((frees m).getD j 0 : Int)))[i]? = some kk := h2
      rw [List.getElem?_map] at h2
      cases e : js[i]? with
      | none => rw [e] at h2; cases h2
      | some j =>
        rw [e] at h2
        have h2 := Option.some.inj h2
        subst h2
        have hd : (frees m).getD j 0 ∈ fitting m t n := by
          rw [← hfit]
          exact List.mem_map.mpr ⟨j, List.mem_of_getElem? e, rfl⟩
        have hf : Kp244.fit m t n = some ((frees m).getD j 0) := fit_some hd fun x hx => by
          rw [← hfit] at hx
          obtain ⟨j', hj', rfl⟩ := List.mem_map.mp hx
          have z := hmin _ (List.mem_map.mpr ⟨j', hj', rfl⟩)
          have z : ((roomOf m t ((frees m).getD j 0) : Nat) : Int) < ((roomOf m t ((frees m).getD j' 0) : Nat) : Int) ∨ ((roomOf m t ((frees m).getD j 0) : Nat) : Int) = ((roomOf m t ((frees m).getD j' 0) : Nat) : Int) ∧ (((frees m).getD j 0 : Nat) : Int) ≤ (((frees m).getD j' 0 : Nat) : Int) := z
          unfold roomOf at z
          omega
        rw [hf] at k
        exact k.yes hy rfl (Int.natCast_nonneg _) ((sm3.trans s4).trans (same_upd hq)) ((sm3.trans s4).free hq) upd_same
    · have hnil : js = [] := by
        cases js with
        | nil => rfl
        | cons j js => cases hb
      refine (k.no (by decide) ?_).mono (sm3.trans s4)
      rw [fit_none (by rw [← hfit, hnil]; rfl)]
end
end Ld
/-! The yard's changes. -/
namespace Ld
open PySem PySem.Spec PyProof.Rows L2
def sp_Yard_add_drum (a : Ad) : Sp := fun vs H Q E => ∃ (s : YS) (m : Kp244.Yard) (l : Addr) (c f w d p : Nat), vs = [.ref s.y, .ref l] ∧ H l = some (.lst (nl [c, f, w, d, p])) ∧ YardAt a H s m ∧ YardOk m ∧ Ans1 a H s m (Kp244.step (some m) (.drum c f w d p)) Q E
def sp_Yard_add_guest (a : Ad) : Sp := fun vs H Q E => ∃ (s : YS) (m : Kp244.Yard), vs = [.ref s.y] ∧ YardAt a H s m ∧ YardOk m ∧ Ans1 a H s m (Kp244.step (some m) .guest) Q E
def sp_Yard_lend (a : Ad) : Sp := fun vs H Q E => ∃ (s : YS) (m : Kp244.Yard) (d g n : Nat), vs = [.ref s.y, ni d, ni g, ni n] ∧ YardAt a H s m ∧ YardOk m ∧ Ans1 a H s m (Kp244.step (some m) (.lend d g n)) Q E
def sp_Yard_bring (a : Ad) : Sp := fun vs H Q E => ∃ (s : YS) (m : Kp244.Yard) (d : Nat), vs = [.ref s.y, ni d] ∧ YardAt a H s m ∧ YardOk m ∧ Ans1 a H s m (Kp244.step (some m) (.bring d)) Q E
def sp_Yard_lose (a : Ad) : Sp := fun vs H Q E => ∃ (s : YS) (m : Kp244.Yard) (d : Nat), vs = [.ref s.y, ni d] ∧ YardAt a H s m ∧ YardOk m ∧ Ans1 a H s m (Kp244.step (some m) (.lose d)) Q E
def sp_Yard_pay (a : Ad) : Sp := fun vs H Q E => ∃ (s : YS) (m : Kp244.Yard) (g n : Nat), vs = [.ref s.y, ni g, ni n] ∧ YardAt a H s m ∧ YardOk m ∧ Ans1 a H s m (Kp244.step (some m) (.pay g n)) Q E
def sp_Yard_pass_days (a : Ad) : Sp := fun vs H Q E => ∃ (s : YS) (m : Kp244.Yard) (n : Nat), vs = [.ref s.y, ni n] ∧ YardAt a H s m ∧ YardOk m ∧ Ans1 a H s m (Kp244.step (some m) (.days n)) Q E
theorem map_erase {α β : Type} (f : α → β) : ∀ (l : List α) (d : Nat), (l.map f).eraseIdx d = (l.eraseIdx d).map f
  | [], _ => rfl
  | _ :: _, 0 => rfl
  | x :: l, d + 1 => by
    show f x :: (l.map f).eraseIdx d = f x :: (l.eraseIdx d).map f
    rw [map_erase f l d]
section
variable {a : Ad} {H H1 : Hp} {s : YS} {m : Kp244.Yard}
theorem mem_at {H : Hp} {C : Addr} {ds : List Addr} {xs : List Kp244.Drum} (h : DrumsAt C H ds xs) {p : Addr} (hp : p ∈ ds) : ∃ o, H p = some o := by
  obtain ⟨i, hi, e⟩ := List.getElem_of_mem hp
  obtain ⟨d, t1, t2, q, _⟩ := h.2 i p _ (by rw [List.getElem?_eq_getElem hi, e]) (List.getElem?_eq_getElem (by rw [← h.1]; exact hi))
  exact ⟨_, q⟩
theorem mem_atG {H : Hp} {C : Addr} {ds : List Addr} {xs : List Kp244.Guest} (h : GuestsAt C H ds xs) {p : Addr} (hp : p ∈ ds) : ∃ o, H p = some o := by
  obtain ⟨i, hi, e⟩ := List.getElem_of_mem hp
  obtain ⟨d, q⟩ := h.2 i p _ (by rw [List.getElem?_eq_getElem hi, e]) (List.getElem?_eq_getElem (by rw [← h.1]; exact hi))
  exact ⟨_, q⟩
/-- one more drum -/
theorem YardAt.addDrum (h : YardAt a H s m) (sm : Same H H1) {x : Addr} {x' : Kp244.Drum} (hx : H x = none) (hD : DrumAt a.CD H1 x x') :
    YardAt a (upd H1 s.dl (.lst (s.ds.map V.ref ++ [V.ref x]))) { s with ds := s.ds ++ [x] } { m with drums := m.drums ++ [x'] } := by
  have h1 := h.same sm
  obtain ⟨⟨dy, hy⟩, h2, h3, h4, h5, h6, h7, h8⟩ := h1
  refine ⟨⟨dy, ?_⟩, ?_, ?_, ⟨?_, fun i p z e1 e2 => ?_⟩, ⟨h5.1, fun i p z e1 e2 => ?_⟩, ?_, h7, h8⟩
  · show upd H1 s.dl _ s.y = _
    rw [upd_ne (ne_of h2 hy lst_ne).symm]
    exact hy
  · show upd H1 s.dl _ s.dl = some (.lst ((s.ds ++ [x]).map V.ref))
    rw [upd_same, List.map_append]
    rfl
  · show upd H1 s.dl _ s.gl = _
    rw [upd_ne h8.symm]
    exact h3
  · show (s.ds ++ [x]).length = (m.drums ++ [x']).length
    rw [List.length_append, List.length_append, h4.1]
    rfl
  · have e1 : (s.ds ++ [x])[i]? = some p := e1
    have e2 : (m.drums ++ [x'])[i]? = some z := e2
    have key : DrumAt a.CD H1 p z := by
      by_cases c : i < s.ds.length
      · rw [List.getElem?_append_left c] at e1
        rw [List.getElem?_append_left (by rw [← h4.1]; exact c)] at e2
        exact h4.2 i p z e1 e2
      · rw [List.getElem?_append_right (by omega)] at e1
        rw [List.getElem?_append_right (by rw [← h4.1]; omega), ← h4.1] at e2
        generalize i - s.ds.length = j at e1 e2
        cases j with
        | zero => cases e1; cases e2; exact hD
        | succ j => cases e1
    obtain ⟨d, t1, t2, q, r⟩ := key
    exact ⟨d, t1, t2, by rw [upd_ne (ne_of h2 q lst_ne).symm]; exact q, r⟩
  · obtain ⟨d, q⟩ := h5.2 i p z e1 e2
    exact ⟨d, by rw [upd_ne (ne_of h2 q lst_ne).symm]; exact q⟩
  · show (s.ds ++ [x]).Nodup
    rw [List.nodup_append]
    refine ⟨h6, by simp, fun p hp b hb e => ?_⟩
    rw [List.mem_singleton] at hb
    subst hb e
    obtain ⟨o, q⟩ := mem_at h.drums hp
    rw [hx] at q
    cases q
/-- one more guest -/
theorem YardAt.addGuest (h : YardAt a H s m) (sm : Same H H1) {x : Addr} {x' : Kp244.Guest} (hx : H x = none) (hD : GuestAt a.CG H1 x x') :
    YardAt a (upd H1 s.gl (.lst (s.gs.map V.ref ++ [V.ref x]))) { s with gs := s.gs ++ [x] } { m with guests := m.guests ++ [x'] } := by
  have h1 := h.same sm
  obtain ⟨⟨dy, hy⟩, h2, h3, h4, h5, h6, h7, h8⟩ := h1
  refine ⟨⟨dy, ?_⟩, ?_, ?_, ⟨h4.1, fun i p z e1 e2 => ?_⟩, ⟨?_, fun i p z e1 e2 => ?_⟩, h6, ?_, h8⟩
  · show upd H1 s.gl _ s.y = _
    rw [upd_ne (ne_of h3 hy lst_ne).symm]
    exact hy
  · show upd H1 s.gl _ s.dl = _
    rw [upd_ne h8]
    exact h2
  · show upd H1 s.gl _ s.gl = some (.lst ((s.gs ++ [x]).map V.ref))
    rw [upd_same, List.map_append]
    rfl
  · obtain ⟨d, t1, t2, q, r⟩ := h4.2 i p z e1 e2
    exact ⟨d, t1, t2, by rw [upd_ne (ne_of h3 q lst_ne).symm]; exact q, r⟩
  · show (s.gs ++ [x]).length = (m.guests ++ [x']).length
    rw [List.length_append, List.length_append, h5.1]
    rfl
  · have e1 : (s.gs ++ [x])[i]? = some p := e1
    have e2 : (m.guests ++ [x'])[i]? = some z := e2
    have key : GuestAt a.CG H1 p z := by
      by_cases c : i < s.gs.length
      · rw [List.getElem?_append_left c] at e1
        rw [List.getElem?_append_left (by rw [← h5.1]; exact c)] at e2
        exact h5.2 i p z e1 e2
      · rw [List.getElem?_append_right (by omega)] at e1
        rw [List.getElem?_append_right (by rw [← h5.1]; omega), ← h5.1] at e2
        generalize i - s.gs.length = j at e1 e2
        cases j with
        | zero => cases e1; cases e2; exact hD
        | succ j => cases e1
    obtain ⟨d, q⟩ := key
    exact ⟨d, by rw [upd_ne (ne_of h3 q lst_ne).symm]; exact q⟩
  · show (s.gs ++ [x]).Nodup
    rw [List.nodup_append]
    refine ⟨h7, by simp, fun p hp b hb e => ?_⟩
    rw [List.mem_singleton] at hb
    subst hb e
    obtain ⟨o, q⟩ := mem_atG h.guests hp
    rw [hx] at q
    cases q
/-- a drum less -/
theorem YardAt.dropDrum (h : YardAt a H s m) (d : Nat) :
    YardAt a (upd H s.dl (.lst ((s.ds.map V.ref).eraseIdx d))) { s with ds := s.ds.eraseIdx d } { m with drums := m.drums.eraseIdx d } := by
  obtain ⟨⟨dy, hy⟩, h2, h3, h4, h5, h6, h7, h8⟩ := h
  refine ⟨⟨dy, ?_⟩, ?_, ?_, ⟨?_, fun i p z e1 e2 => ?_⟩, ⟨h5.1, fun i p z e1 e2 => ?_⟩, ?_, h7, h8⟩
  · show upd H s.dl _ s.y = _
    rw [upd_ne (ne_of h2 hy lst_ne).symm]
    exact hy
  · show upd H s.dl _ s.dl = some (.lst ((s.ds.eraseIdx d).map V.ref))
    rw [upd_same, map_erase]
  · show upd H s.dl _ s.gl = _
    rw [upd_ne h8.symm]
    exact h3
  · show (s.ds.eraseIdx d).length = (m.drums.eraseIdx d).length
    rw [List.length_eraseIdx, List.length_eraseIdx, h4.1]
  · have e1 : (s.ds.eraseIdx d)[i]? = some p := e1
    have e2 : (m.drums.eraseIdx d)[i]? = some z := e2
    have key : DrumAt a.CD H p z := by
      rw [List.getElem?_eraseIdx] at e1 e2
      by_cases c : i < d
      · rw [if_pos c] at e1 e2
        exact h4.2 i p z e1 e2
      · rw [if_neg c] at e1 e2
        exact h4.2 _ p z e1 e2
    obtain ⟨d, t1, t2, q, r⟩ := key
    exact ⟨d, t1, t2, by rw [upd_ne (ne_of h2 q lst_ne).symm]; exact q, r⟩
  · obtain ⟨d, q⟩ := h5.2 i p z e1 e2
    exact ⟨d, by rw [upd_ne (ne_of h2 q lst_ne).symm]; exact q⟩
  · exact h6.sublist (List.eraseIdx_sublist _ _)
end
theorem YardOk.days {m : Kp244.Yard} (ok : YardOk m) {n : Nat} (h : m.day + n ≤ 100000) : YardOk { m with day := m.day + n } :=
  ⟨ok.free, h, ok.dn, ok.gn, ok.good, fun x hx z hz => ⟨(ok.lent x hx z hz).1, Nat.le_trans (ok.lent x hx z hz).2 (Nat.le_add_right _ _)⟩, ok.paid, ok.pledged⟩
section
variable {P : Program} {w : World} {K : PySem.W.Frag} {mg : Str → Option Value} {base : Heap} {a : Ad}
theorem ok_Yard_add_drum (T : Txt K mg a) : FnOk P w K mg base (L2.CX P w) 4 a.f_Yard_add_drum a.fd_Yard_add_drum ["self", "numbers"] (sp_Yard_add_drum a) := by
  refine T.d_Yard_add_drum.F.okX sc_Yard_add_drum (fun vs H Q E h => ?_) (fun cdv A outer s H vs Q E hr h => ⟨_, (pss_cons (ps_asg (pv 1) (pg_unl rfl (pgs_cons (pg_name (i := 2) sc_Yard_add_drum.nd rfl (Or.inl rfl)) (pgs_cons (pg_name (i := 3) sc_Yard_add_drum.nd rfl (Or.inl rfl)) (pgs_cons (pg_name (i := 4) sc_Yard_add_drum.nd rfl (Or.inl rfl)) (pgs_cons (pg_name (i := 5) sc_Yard_add_drum.nd rfl (Or.inl rfl)) (pgs_cons (pg_name (i := 6) sc_Yard_add_drum.nd rfl (Or.inl rfl)) pgs_nil)))))))
      (pss_cons (ps_expr (pe_call (ok_need T) (hr.mono (by decide)) rfl T.g_need T.d_need.F.kp T.d_need.b .nil (passes_call (takes_of rfl rfl rfl rfl) (fun _ _ _ _ h => h)) (pa_cons (pe_and (pe_cmpR op_ge (pv 2) pe_int (nomark _)) (pe_and (pe_chain op_le op_le (pv 2) (pv 3) (pe_cst T.c_LARGEST)) (pe_one (pe_chain op_le op_le pe_int (pv 4) (pe_cst T.c_LARGEST))))) (pa_cons (pe_cst T.c_WRONG) pa_nil))))
      (pss_cons (ps_expr (pe_call (ok_need T) (hr.mono (by decide)) rfl T.g_need T.d_need.F.kp T.d_need.b .nil (passes_call (takes_of rfl rfl rfl rfl) (fun _ _ _ _ h => h)) (pa_cons (pe_and (pe_cmpR op_le (pv 5) (pe_cst T.c_MOST_DAILY) (nomark _)) (pe_one (pe_cmpR op_le (pv 6) (pe_cst T.c_MOST_PLEDGE) (nomark _)))) (pa_cons (pe_cst T.c_WRONG) pa_nil))))
      (pss_cons (ps_expr (pe_call (ok_need T) (hr.mono (by decide)) rfl T.g_need T.d_need.F.kp T.d_need.b .nil (passes_call (takes_of rfl rfl rfl rfl) (fun _ _ _ _ h => h)) (pa_cons (pe_cmpR op_lt (pe_callB call_len_seq (by rfl) T.b_len PySem.boot_len (pa_cons (pe_fld (pv 0) rfl) pa_nil)) (pe_cst T.c_MOST_DRUMS) (nomark _)) (pa_cons (pe_cst T.c_TOO_MANY) pa_nil))))
      (pss_cons (ps_expr (pe_bm PySem.F.plainAttrs_list PySem.F.slot_list_append PySem.F.type_list_append mt_append (pe_fld (pv 0) rfl) (pa_cons (pe_make T.mk_Drum (ok_Drum_init T) (hr.mono (by decide)) rfl T.gC_Drum T.d_Drum_init.b .nil pass0 (pa_cons (pv 2) (pa_cons (pv 3) (pa_cons (pv 4) (pa_cons (pv 5) (pa_cons (pv 6) pa_nil)))))) pa_nil)))
      (pss_one (ps_ret (pe_lst (pa_cons (pe_op op_subN (pe_callB call_len_seq (by rfl) T.b_len PySem.boot_len (pa_cons (pe_fld (pv 0) rfl) pa_nil)) pe_int) pa_nil))))))))), ?_⟩)
  · obtain ⟨s', m, l, c, f, w, d, p, rfl, _⟩ := h
    rfl
  · obtain ⟨s', m, l, c, f, w, d, p, rfl, hl, hy, ok, k⟩ := h
    obtain ⟨dx, hyd⟩ := hy.yard
    have no22 : (c = 0 ∨ f < c ∨ 5000 < f ∨ w = 0 ∨ 5000 < w ∨ 1000 < d ∨ 100000 < p) → Refuse a H (-22) E := fun h => k.1 _ (by decide) (if_pos h)
    refine ⟨_, rfl, l, _, rfl, SqL.of hl, rfl, _, _, rfl, _, _, rfl, _, _, rfl, _, _, rfl, _, _, rfl, rfl, ?_⟩
    refine ⟨_, rfl, _, _, rfl, rfl, _, rfl, ?_⟩
    by_cases c1 : 1 ≤ c
    rotate_left
    · exact if_false_of (decide_eq_false (by omega)) ⟨_, _, rfl, (fun hb => by cases hb), fun _ => no22 (by omega)⟩
    refine if_true_of (decide_eq_true (by omega)) ?_
    refine ⟨_, rfl, _, rfl, _, _, rfl, rfl, _, rfl, ?_⟩
    by_cases c2 : c ≤ f
    rotate_left
    · exact if_false_of (decide_eq_false (by omega)) ⟨_, rfl, if_false_of rfl ⟨_, _, rfl, (fun hb => by cases hb), fun _ => no22 (by omega)⟩⟩
    refine if_true_of (decide_eq_true (by omega)) ?_
    refine ⟨_, _, rfl, rfl, _, rfl, ?_⟩
    by_cases c3 : f ≤ 5000
    rotate_left
    · exact if_false_of (decide_eq_false (by omega)) ⟨_, _, rfl, (fun hb => by cases hb), fun _ => no22 (by omega)⟩
    refine if_true_of (decide_eq_true (by omega)) ?_
    refine ⟨_, rfl, _, _, rfl, rfl, _, rfl, ?_⟩
    by_cases c4 : 1 ≤ w
    rotate_left
    · exact if_false_of (decide_eq_false (by omega)) ⟨_, _, rfl, (fun hb => by cases hb), fun _ => no22 (by omega)⟩
    refine if_true_of (decide_eq_true (by omega)) ?_
    refine ⟨_, _, rfl, rfl, _, _, rfl, fun hb => ?_, fun hb => no22 (by have := of_decide_eq_false hb; omega)⟩
    have c5 := of_decide_eq_true hb
    refine ⟨_, rfl, _, _, rfl, rfl, _, rfl, ?_⟩
    by_cases c6 : d ≤ 1000
    rotate_left
    · exact if_false_of (decide_eq_false (by omega)) ⟨_, _, rfl, (fun hb => by cases hb), fun _ => no22 (by omega)⟩
    refine if_true_of (decide_eq_true (by omega)) ?_
    refine ⟨_, rfl, _, _, rfl, rfl, _, _, rfl, fun hb => ?_, fun hb => no22 (by have := of_decide_eq_false hb; omega)⟩
    have c7 := of_decide_eq_true hb
    have hok : ¬ (c = 0 ∨ f < c ∨ 5000 < f ∨ w = 0 ∨ 5000 < w ∨ 1000 < d ∨ 100000 < p) := by omega
    have hlen : (s'.ds.map V.ref).length = m.drums.length := by rw [List.length_map, hy.drums.1]
    refine ⟨_, rfl, s'.y, a.CY, dx, _, _, rfl, hyd, T.cl_Yard, T.n_Yard_drums, yF_drums _ _ _, s'.dl, _, rfl, .inl (SqL.of hy.dl), _, _, rfl, rfl, _, _, rfl, fun hb => ?_, fun hb => ?_⟩
    rotate_left
    · have hb := of_decide_eq_false hb
      rw [hlen] at hb
      have h6 : Kp244.DRUMS ≤ m.drums.length := by
        show 6 ≤ m.drums.length
        omega
      exact k.1 _ (by decide) ((if_neg hok).trans (if_pos h6))
    have hb := of_decide_eq_true hb
    rw [hlen] at hb
    have h6 : ¬ Kp244.DRUMS ≤ m.drums.length := by
      show ¬ 6 ≤ m.drums.length
      omega
    have hstep : Kp244.step (some m) (.drum c f w d p) = (some { m with drums := m.drums ++ [⟨c, f, w, d, p, none⟩] }, Kp244.say (m.drums.length : Int)) := (if_neg hok).trans (if_neg h6)
    refine ⟨_, rfl, s'.y, a.CY, dx, _, _, rfl, hyd, T.cl_Yard, T.n_Yard_drums, yF_drums _ _ _, .inl ⟨rfl, _, SqL.of hy.dl⟩, _, rfl, _, rfl, _, rfl, _, rfl, _, rfl, fun x dxx hx hdx hne => ?_⟩
    refine ⟨x, dxx, c, f, w, d, p, rfl, upd_same, fun H1 hD kp => ⟨rfl, ?_⟩⟩
    have s1 : Same H H1 := Same.made hx hdx kp
    have hdl1 := s1 _ _ hy.dl
    refine ⟨s'.dl, _, _, rfl, rfl, hdl1, ?_, ?_⟩
    · rw [hlen, sizeLine_eq]
      omega
    have Y2 := hy.addDrum s1 hx hD
    obtain ⟨dx2, hyd2⟩ := Y2.yard
    refine ⟨_, rfl, s'.y, a.CY, dx2, _, _, rfl, hyd2, T.cl_Yard, T.n_Yard_drums, yF_drums _ _ _, s'.dl, _, rfl, .inl (SqL.of upd_same), _, 1, rfl, rfl, ?_, (by show 1 ≤ sizeLine; decide), fun q hq => ?_⟩
    · rw [List.length_append]
      exact Nat.le_add_left _ _
    have hq1 : H1 q = none := by
      by_cases e : q = s'.dl
      · rw [e, upd_same] at hq
        cases hq
      · rw [upd_ne e] at hq
        exact hq
    refine k.2 _ { s' with ds := s'.ds ++ [x] } _ q _ hstep (Int.natCast_nonneg _) ⟨rfl, fun b o hb hn => ?_, fun b hb => ?_⟩ (Y2.same (same_upd hq)) (s1.free hq1) ?_
    · refine same_upd hq _ _ ?_
      rw [upd_ne fun e => hn (.inr (.inl e))]
      exact s1 _ _ hb
    · rcases hb with hb | hb | hb | hb | hb
      · exact .inl (.inl hb)
      · exact .inl (.inr (.inl hb))
      · exact .inl (.inr (.inr (.inl hb)))
      · have hb : b ∈ s'.ds ++ [x] := hb
        rcases List.mem_append.mp hb with hb | hb
        · exact .inl (.inr (.inr (.inr (.inl hb))))
        · rw [List.mem_singleton] at hb
          rw [hb]
          exact .inr hx
      · exact .inl (.inr (.inr (.inr (.inr hb))))
    · rw [upd_same, List.length_append, hlen]
      rfl
theorem ok_Yard_add_guest (T : Txt K mg a) : FnOk P w K mg base (L2.CX P w) 4 a.f_Yard_add_guest a.fd_Yard_add_guest ["self"] (sp_Yard_add_guest a) := by
  refine T.d_Yard_add_guest.F.okX sc_Yard_add_guest (fun vs H Q E h => ?_) (fun cdv A outer s H vs Q E hr h => ⟨_, (pss_cons (ps_expr (pe_call (ok_need T) (hr.mono (by decide)) rfl T.g_need T.d_need.F.kp T.d_need.b .nil (passes_call (takes_of rfl rfl rfl rfl) (fun _ _ _ _ h => h)) (pa_cons (pe_cmpR op_lt (pe_callB call_len_seq (by rfl) T.b_len PySem.boot_len (pa_cons (pe_fld (pv 0) rfl) pa_nil)) (pe_cst T.c_MOST_GUESTS) (nomark _)) (pa_cons (pe_cst T.c_TOO_MANY) pa_nil))))
      (pss_cons (ps_expr (pe_bm PySem.F.plainAttrs_list PySem.F.slot_list_append PySem.F.type_list_append mt_append (pe_fld (pv 0) rfl) (pa_cons (pe_make0 T.mk_Guest (ok_Guest_init T) (hr.mono (by decide)) rfl T.gC_Guest T.d_Guest_init.b .nil pass0) pa_nil)))
      (pss_one (ps_ret (pe_lst (pa_cons (pe_op op_subN (pe_callB call_len_seq (by rfl) T.b_len PySem.boot_len (pa_cons (pe_fld (pv 0) rfl) pa_nil)) pe_int) pa_nil)))))), ?_⟩)
  · obtain ⟨s', m, rfl, _⟩ := h
    rfl
  · obtain ⟨s', m, rfl, hy, ok, k⟩ := h
    obtain ⟨dx, hyd⟩ := hy.yard
    have hlen : (s'.gs.map V.ref).length = m.guests.length := by rw [List.length_map, hy.guests.1]
    refine ⟨_, rfl, s'.y, a.CY, dx, _, _, rfl, hyd, T.cl_Yard, T.n_Yard_guests, yF_guests _ _ _, s'.gl, _, rfl, .inl (SqL.of hy.gl), _, _, rfl, rfl, _, _, rfl, fun hb => ?_, fun hb => ?_⟩
    rotate_left
    · have hb := of_decide_eq_false hb
      rw [hlen] at hb
      have h6 : Kp244.GUESTS ≤ m.guests.length := by
        show 4 ≤ m.guests.length
        omega
      exact k.1 _ (by decide) (if_pos h6)
    have hb := of_decide_eq_true hb
    rw [hlen] at hb
    have h6 : ¬ Kp244.GUESTS ≤ m.guests.length := by
      show ¬ 4 ≤ m.guests.length
      omega
    have hstep : Kp244.step (some m) .guest = (some { m with guests := m.guests ++ [⟨0, 0, 0⟩] }, Kp244.say (m.guests.length : Int)) := if_neg h6
    refine ⟨_, rfl, s'.y, a.CY, dx, _, _, rfl, hyd, T.cl_Yard, T.n_Yard_guests, yF_guests _ _ _, .inl ⟨rfl, _, SqL.of hy.gl⟩, fun x dxx hx hdx hne => ?_⟩
    refine ⟨x, dxx, rfl, upd_same, fun H1 hD kp => ⟨rfl, ?_⟩⟩
    have s1 : Same H H1 := Same.made hx hdx kp
    have hdl1 := s1 _ _ hy.gl
    refine ⟨s'.gl, _, _, rfl, rfl, hdl1, ?_, ?_⟩
    · rw [hlen, sizeLine_eq]
      omega
    have Y2 := hy.addGuest s1 hx hD
    obtain ⟨dx2, hyd2⟩ := Y2.yard
    refine ⟨_, rfl, s'.y, a.CY, dx2, _, _, rfl, hyd2, T.cl_Yard, T.n_Yard_guests, yF_guests _ _ _, s'.gl, _, rfl, .inl (SqL.of upd_same), _, 1, rfl, rfl, ?_, (by show 1 ≤ sizeLine; decide), fun q hq => ?_⟩
    · rw [List.length_append]
      exact Nat.le_add_left _ _
    have hq1 : H1 q = none := by
      by_cases e : q = s'.gl
      · rw [e, upd_same] at hq
        cases hq
      · rw [upd_ne e] at hq
        exact hq
    refine k.2 _ { s' with gs := s'.gs ++ [x] } _ q _ hstep (Int.natCast_nonneg _) ⟨rfl, fun b o hb hn => ?_, fun b hb => ?_⟩ (Y2.same (same_upd hq)) (s1.free hq1) ?_
    · refine same_upd hq _ _ ?_
      rw [upd_ne fun e => hn (.inr (.inr (.inl e)))]
      exact s1 _ _ hb
    · rcases hb with hb | hb | hb | hb | hb
      · exact .inl (.inl hb)
      · exact .inl (.inr (.inl hb))
      · exact .inl (.inr (.inr (.inl hb)))
      · exact .inl (.inr (.inr (.inr (.inl hb))))
      · have hb : b ∈ s'.gs ++ [x] := hb
        rcases List.mem_append.mp hb with hb | hb
        · exact .inl (.inr (.inr (.inr (.inr hb))))
        · rw [List.mem_singleton] at hb
          rw [hb]
          exact .inr hx
    · rw [upd_same, List.length_append, hlen]
      rfl
end
end Ld
/-! Lent, brought back, lost, paid, days gone by. -/
namespace Ld
open PySem PySem.Spec PyProof.Rows L2
theorem own_d {s : YS} {i : Nat} {p : Addr} (h : s.ds[i]? = some p) : Own s p := .inr (.inr (.inr (.inl (List.mem_of_getElem? h))))
theorem own_g {s : YS} {i : Nat} {p : Addr} (h : s.gs[i]? = some p) : Own s p := .inr (.inr (.inr (.inr (List.mem_of_getElem? h))))
/-- a store at an own thing, then a new list -/
theorem keep_upd {s : YS} {H : Hp} {p q : Addr} {o u : HO} (hp : Own s p) (hq : upd H p o q = none) : Keep s s H (upd (upd H p o) q u) := ⟨rfl, fun b v e hn => by
  refine same_upd hq _ _ ?_
  rw [upd_ne fun z => hn (by rw [z]; exact hp)]
  exact e, fun b h => .inl h⟩
theorem fresh_upd {H : Hp} {p q : Addr} {o : HO} (hq : upd H p o q = none) : H q = none := by
  by_cases e : q = p
  · rw [e, upd_same] at hq
    cases hq
  · rw [upd_ne e] at hq
    exact hq
theorem seq_at {d n : Nat} (h : d < n) : seqIndex? (d : Int) n = some d := (seqIndex_of (by omega) (by omega)).trans (by rw [Int.toNat_natCast])
section
variable {P : Program} {w : World} {K : PySem.W.Frag} {mg : Str → Option Value} {base : Heap} {a : Ad}
theorem ok_Yard_lend (T : Txt K mg a) : FnOk P w K mg base (L2.CX P w) 5 a.f_Yard_lend a.fd_Yard_lend ["self", "number", "guest", "days"] (sp_Yard_lend a) := by
  refine T.d_Yard_lend.F.okX sc_Yard_lend (fun vs H Q E h => ?_) (fun cdv A outer s H vs Q E hr h => ⟨_, (pss_cons (ps_set (i := 4) sc_Yard_lend.nd rfl (Or.inl rfl) (pe_meth (pv 0) T.cl_Yard T.m_Yard_drum_at (ok_Yard_drum_at T) (hr.mono (by decide)) T.d_Yard_drum_at.b .nil (passes_call (takes_of rfl rfl rfl rfl) (fun _ _ _ _ h => h)) (pa_cons (pv 1) pa_nil)))
      (pss_cons (ps_expr (pe_meth (pv 0) T.cl_Yard T.m_Yard_guest_at (ok_Yard_guest_at T) (hr.mono (by decide)) T.d_Yard_guest_at.b .nil (passes_call (takes_of rfl rfl rfl rfl) (fun _ _ _ _ h => h)) (pa_cons (pv 2) pa_nil)))
      (pss_cons (ps_expr (pe_call (ok_need T) (hr.mono (by decide)) rfl T.g_need T.d_need.F.kp T.d_need.b .nil (passes_call (takes_of rfl rfl rfl rfl) (fun _ _ _ _ h => h)) (pa_cons (pe_chain op_le op_le pe_int (pv 3) (pe_cst T.c_MOST_DAYS)) (pa_cons (pe_cst T.c_WRONG) pa_nil))))
      (pss_cons (ps_expr (pe_call (ok_need T) (hr.mono (by decide)) rfl T.g_need T.d_need.F.kp T.d_need.b .nil (passes_call (takes_of rfl rfl rfl rfl) (fun _ _ _ _ h => h)) (pa_cons (pe_cmpR op_isN (pe_fld (pv 4) rfl) pe_non (nomark _)) (pa_cons (pe_cst T.c_IS_LENT) pa_nil))))
      (pss_cons (ps_fld (pv 4) (pv 2) rfl)
      (pss_cons (ps_fld (pv 4) (pe_fld (pv 0) rfl) rfl)
      (pss_cons (ps_fld (pv 4) (pe_op op_addN (pe_fld (pv 0) rfl) (pv 3)) rfl)
      (pss_one (ps_ret (pe_lst (pa_cons (pe_fld (pv 4) rfl) pa_nil))))))))))), ?_⟩)
  · obtain ⟨s', m, d, g, n, rfl, _⟩ := h
    rfl
  · obtain ⟨s', m, d, g, n, rfl, hy, ok, k⟩ := h
    obtain ⟨dx, hyd⟩ := hy.yard
    have no2 : (Kp244.isDrum m d = false ∨ Kp244.isGuest m g = false) → Refuse a H (-2) E := fun h => k.1 _ (by decide) (if_pos h)
    refine ⟨_, rfl, s'.y, dx, _, rfl, hyd, yF_no _ _ _ (by decide +kernel), _, rfl, s', m, d, rfl, hy, fun p hd hp => ?_, fun hd => no2 (.inl (isDrum_no hd))⟩
    refine ⟨_, rfl, s'.y, dx, _, rfl, hyd, yF_no _ _ _ (by decide +kernel), _, rfl, s', m, g, rfl, hy, fun gp hg hgp => ?_, fun hg => no2 (.inr (isGuest_no hg))⟩
    have ok1 : ¬ (Kp244.isDrum m d = false ∨ Kp244.isGuest m g = false) := by
      rw [isDrum_of hd, isGuest_of hg]
      intro z
      rcases z with z | z <;> cases z
    have no22 : (n = 0 ∨ 1000 < n) → Refuse a H (-22) E := fun h => k.1 _ (by decide) ((if_neg ok1).trans (if_pos h))
    obtain ⟨p', hp', hdr⟩ := hy.drums.get hd
    rw [hp] at hp'
    cases hp'
    obtain ⟨dd, s1, s2, hpd, hl⟩ := id hdr
    refine ⟨_, rfl, _, _, rfl, rfl, _, rfl, ?_⟩
    by_cases c1 : 1 ≤ n
    rotate_left
    · exact if_false_of (decide_eq_false (by omega)) ⟨_, _, rfl, (fun hb => by cases hb), fun _ => no22 (by omega)⟩
    refine if_true_of (decide_eq_true (by omega)) ?_
    refine ⟨_, _, rfl, rfl, _, _, rfl, fun hb => ?_, fun hb => no22 (by have := of_decide_eq_false hb; omega)⟩
    have c2 := of_decide_eq_true hb
    have ok2 : ¬ (n = 0 ∨ 1000 < n) := by omega
    refine ⟨_, rfl, p, a.CD, dd, _, _, rfl, hpd, T.cl_Drum, T.n_Drum_guest, dF_guest _ _ _ _, rfl, _, _, rfl, fun hb => ?_, fun hb => ?_⟩
    rotate_left
    · rw [guestV_free] at hb
      exact k.1 _ (by decide) ((if_neg ok1).trans ((if_neg ok2).trans (if_pos hb)))
    rw [guestV_free] at hb
    have ok3 : ¬ Kp244.isFree (Kp244.drumAt m d) = false := by
      rw [hb]
      decide
    have hstep : Kp244.step (some m) (.lend d g n) = (some (Kp244.setGuest (Kp244.setDrum m d { Kp244.drumAt m d with lent := some (g, m.day, m.day + n) }) g { Kp244.guestAt m g with pledged := (Kp244.guestAt m g).pledged + (Kp244.drumAt m d).pledge }), Kp244.say (m.day + n : Nat)) :=
      (if_neg ok1).trans ((if_neg ok2).trans (if_neg ok3))
    have ny : s'.y ≠ p := ne_of hyd hpd (ins_ne yF_ne_dF)
    refine ⟨_, rfl, _, rfl, p, a.CD, dd, _, rfl, hpd, T.cl_Drum, T.n_Drum_guest, (by show 8 < 1000; decide), ?_⟩
    rw [dF_putG]
    refine ⟨_, rfl, s'.y, a.CY, dx, _, _, rfl, (by rw [upd_ne ny]; exact hyd), T.cl_Yard, T.n_Yard_today, yF_today _ _ _, _, rfl, p, a.CD, dd, _, rfl, upd_same, T.cl_Drum, T.n_Drum_since, (by show 8 < 1000; decide), ?_⟩
    rw [dF_putS, upd_upd]
    refine ⟨_, rfl, s'.y, a.CY, dx, _, _, rfl, (by rw [upd_ne ny]; exact hyd), T.cl_Yard, T.n_Yard_today, yF_today _ _ _, _, rfl, _, _, rfl, rfl, _, rfl, p, a.CD, dd, _, rfl, upd_same, T.cl_Drum, T.n_Drum_till, (by show 8 < 1000; decide), ?_⟩
    rw [dF_putT, upd_upd]
    refine ⟨_, rfl, p, a.CD, dd, _, _, rfl, upd_same, T.cl_Drum, T.n_Drum_till, dF_till _ _ _ _, (by show 1 ≤ sizeLine; decide), fun q hq => ?_⟩
    have Y1 := hy.setDrum (x' := { Kp244.drumAt m d with lent := some (g, m.day, m.day + n) }) hp hd (o := .ins a.CD dd (dF (Kp244.drumAt m d) (.int (g : Int)) m.day (m.day + n))) ⟨dd, m.day, m.day + n, upd_same, fun z e => by
      cases e
      exact ⟨rfl, rfl⟩⟩
    have Y2 : YardAt a _ s' (Kp244.setGuest (Kp244.setDrum m d { Kp244.drumAt m d with lent := some (g, m.day, m.day + n) }) g { Kp244.guestAt m g with pledged := (Kp244.guestAt m g).pledged + (Kp244.drumAt m d).pledge }) := Y1.pledged rfl rfl rfl rfl (by
        show (m.guests.set g _).length = _
        rw [List.length_set]
        rfl) fun i g1 g2 h1 h2 => by
      have k1 : m.guests[i]? = some g1 := h1
      have k2 : (m.guests.set g { Kp244.guestAt m g with pledged := (Kp244.guestAt m g).pledged + (Kp244.drumAt m d).pledge })[i]? = some g2 := h2
      by_cases e : i = g
      · rw [e] at k1 k2
        rw [List.getElem?_set_self hg] at k2
        rw [guestAt_get hg] at k1
        cases k1
        cases k2
        exact ⟨rfl, rfl⟩
      · rw [List.getElem?_set_ne (Ne.symm e), k1] at k2
        cases k2
        exact ⟨rfl, rfl⟩
    exact k.2 _ s' _ q _ hstep (Int.natCast_nonneg _) (keep_upd (own_d hp) hq) (Y2.same (same_upd hq)) (fresh_upd hq) upd_same
theorem ok_Yard_pay (T : Txt K mg a) : FnOk P w K mg base (L2.CX P w) 5 a.f_Yard_pay a.fd_Yard_pay ["self", "number", "amount"] (sp_Yard_pay a) := by
  refine T.d_Yard_pay.F.okX sc_Yard_pay (fun vs H Q E h => ?_) (fun cdv A outer s H vs Q E hr h => ⟨_, (pss_cons (ps_set (i := 3) sc_Yard_pay.nd rfl (Or.inl rfl) (pe_meth (pv 0) T.cl_Yard T.m_Yard_guest_at (ok_Yard_guest_at T) (hr.mono (by decide)) T.d_Yard_guest_at.b .nil (passes_call (takes_of rfl rfl rfl rfl) (fun _ _ _ _ h => h)) (pa_cons (pv 1) pa_nil)))
      (pss_cons (ps_expr (pe_call (ok_need T) (hr.mono (by decide)) rfl T.g_need T.d_need.F.kp T.d_need.b .nil (passes_call (takes_of rfl rfl rfl rfl) (fun _ _ _ _ h => h)) (pa_cons (pe_chain op_le op_le pe_int (pv 2) (pe_op op_subN (pe_fld (pv 3) rfl) (pe_fld (pv 3) rfl))) (pa_cons (pe_cst T.c_WRONG) pa_nil))))
      (pss_cons (ps_fld (pv 3) (pe_op op_addN (pe_fld (pv 3) rfl) (pv 2)) rfl)
      (pss_one (ps_ret (pe_lst (pa_cons pe_int (pa_cons (pe_op op_subN (pe_fld (pv 3) rfl) (pe_fld (pv 3) rfl)) pa_nil)))))))), ?_⟩)
  · obtain ⟨s', m, g, n, rfl, _⟩ := h
    rfl
  · obtain ⟨s', m, g, n, rfl, hy, ok, k⟩ := h
    obtain ⟨dx, hyd⟩ := hy.yard
    refine ⟨_, rfl, s'.y, dx, _, rfl, hyd, yF_no _ _ _ (by decide +kernel), _, rfl, s', m, g, rfl, hy, fun gp hg hgp => ?_, fun hg => k.1 _ (by decide) (if_pos (isGuest_no hg))⟩
    have ok1 : ¬ Kp244.isGuest m g = false := by
      rw [isGuest_of hg]
      decide
    have no22 : (n = 0 ∨ (Kp244.guestAt m g).owed - (Kp244.guestAt m g).paid < n) → Refuse a H (-22) E := fun h => k.1 _ (by decide) ((if_neg ok1).trans (if_pos h))
    obtain ⟨p', hp', dg, hgd⟩ := hy.guests.get hg
    rw [hgp] at hp'
    cases hp'
    have hpaid := ok.paid _ (guestAt_mem hg)
    refine ⟨_, rfl, _, _, rfl, rfl, _, rfl, ?_⟩
    by_cases c1 : 1 ≤ n
    rotate_left
    · exact if_false_of (decide_eq_false (by omega)) ⟨_, _, rfl, (fun hb => by cases hb), fun _ => no22 (by omega)⟩
    refine if_true_of (decide_eq_true (by omega)) ?_
    refine ⟨_, rfl, gp, a.CG, dg, _, _, rfl, hgd, T.cl_Guest, T.n_Guest_owed, gF_owed _, _, rfl, gp, a.CG, dg, _, _, rfl, hgd, T.cl_Guest, T.n_Guest_paid, gF_paid _, _, _, rfl, rfl, hpaid, _, _, rfl, rfl, _, _, rfl, fun hb => ?_, fun hb => no22 (by have := of_decide_eq_false hb; omega)⟩
    have c2 := of_decide_eq_true hb
    have ok2 : ¬ (n = 0 ∨ (Kp244.guestAt m g).owed - (Kp244.guestAt m g).paid < n) := by omega
    have hstep : Kp244.step (some m) (.pay g n) = (some (Kp244.setGuest m g { Kp244.guestAt m g with paid := (Kp244.guestAt m g).paid + n }), ⟨0, [((Kp244.guestAt m g).owed - (Kp244.guestAt m g).paid - n : Nat)]⟩) := (if_neg ok1).trans (if_neg ok2)
    refine ⟨_, rfl, gp, a.CG, dg, _, _, rfl, hgd, T.cl_Guest, T.n_Guest_paid, gF_paid _, _, rfl, _, _, rfl, rfl, _, rfl, gp, a.CG, dg, _, rfl, hgd, T.cl_Guest, T.n_Guest_paid, (by show 2 < 1000; decide), ?_⟩
    rw [gF_putP]
    refine ⟨_, rfl, gp, a.CG, dg, _, _, rfl, upd_same, T.cl_Guest, T.n_Guest_owed, gF_owed _, _, rfl, gp, a.CG, dg, _, _, rfl, upd_same, T.cl_Guest, T.n_Guest_paid, gF_paid _, _, _, rfl, rfl, ?_, (by show 2 ≤ sizeLine; decide), fun q hq => ?_⟩
    · show (Kp244.guestAt m g).paid + n ≤ (Kp244.guestAt m g).owed
      omega
    have Y1 := hy.setGuest (dx := dg) (g' := { Kp244.guestAt m g with paid := (Kp244.guestAt m g).paid + n }) hgp hg
    refine k.2 _ s' _ q _ hstep (Int.le_refl 0) (keep_upd (own_g hgp) hq) (Y1.same (same_upd hq)) (fresh_upd hq) ?_
    rw [upd_same]
    show some (HO.lst [.int 0, .int (((Kp244.guestAt m g).owed - ((Kp244.guestAt m g).paid + n) : Nat) : Int)]) = some (HO.lst [.int 0, .int (((Kp244.guestAt m g).owed - (Kp244.guestAt m g).paid - n : Nat) : Int)])
    rw [Nat.sub_sub]
theorem ok_Yard_pass_days (T : Txt K mg a) : FnOk P w K mg base (L2.CX P w) 4 a.f_Yard_pass_days a.fd_Yard_pass_days ["self", "days"] (sp_Yard_pass_days a) := by
  refine T.d_Yard_pass_days.F.okX sc_Yard_pass_days (fun vs H Q E h => ?_) (fun cdv A outer s H vs Q E hr h => ⟨_, (pss_cons (ps_expr (pe_call (ok_need T) (hr.mono (by decide)) rfl T.g_need T.d_need.F.kp T.d_need.b .nil (passes_call (takes_of rfl rfl rfl rfl) (fun _ _ _ _ h => h)) (pa_cons (pe_and (pe_chain op_le op_le pe_int (pv 1) (pe_cst T.c_MOST_DAYS)) (pe_one (pe_cmpR op_le (pe_op op_addN (pe_fld (pv 0) rfl) (pv 1)) (pe_cst T.c_LAST_DAY) (nomark _)))) (pa_cons (pe_cst T.c_WRONG) pa_nil))))
      (pss_cons (ps_fld (pv 0) (pe_op op_addN (pe_fld (pv 0) rfl) (pv 1)) rfl)
      (pss_one (ps_ret (pe_lst (pa_cons (pe_fld (pv 0) rfl) (pa_cons (pe_callB call_len_seq (by rfl) T.b_len PySem.boot_len (pa_cons (pe_meth0 (pv 0) T.cl_Yard T.m_Yard_late_drums (ok_Yard_late_drums T) (hr.mono (by decide)) T.d_Yard_late_drums.b .nil pass0) pa_nil)) pa_nil))))))), ?_⟩)
  · obtain ⟨s', m, n, rfl, _⟩ := h
    rfl
  · obtain ⟨s', m, n, rfl, hy, ok, k⟩ := h
    obtain ⟨dx, hyd⟩ := hy.yard
    have no22 : (n = 0 ∨ 1000 < n ∨ 100000 < m.day + n) → Refuse a H (-22) E := fun h => k.1 _ (by decide) (if_pos h)
    refine ⟨_, rfl, _, _, rfl, rfl, _, rfl, ?_⟩
    by_cases c1 : 1 ≤ n
    rotate_left
    · exact if_false_of (decide_eq_false (by omega)) ⟨_, rfl, if_false_of rfl ⟨_, _, rfl, (fun hb => by cases hb), fun _ => no22 (by omega)⟩⟩
    refine if_true_of (decide_eq_true (by omega)) ?_
    refine ⟨_, _, rfl, rfl, _, rfl, ?_⟩
    by_cases c2 : n ≤ 1000
    rotate_left
    · exact if_false_of (decide_eq_false (by omega)) ⟨_, _, rfl, (fun hb => by cases hb), fun _ => no22 (by omega)⟩
    refine if_true_of (decide_eq_true (by omega)) ?_
    refine ⟨_, rfl, s'.y, a.CY, dx, _, _, rfl, hyd, T.cl_Yard, T.n_Yard_today, yF_today _ _ _, _, rfl, _, _, rfl, rfl, _, _, rfl, rfl, _, _, rfl, fun hb => ?_, fun hb => no22 (by have := of_decide_eq_false hb; omega)⟩
    have c3 := of_decide_eq_true hb
    have ok1 : ¬ (n = 0 ∨ 1000 < n ∨ 100000 < m.day + n) := by omega
    have hstep : Kp244.step (some m) (.days n) = (some { m with day := m.day + n }, ⟨(m.day + n : Nat), [((Kp244.late { m with day := m.day + n }).length : Int)]⟩) := if_neg ok1
    refine ⟨_, rfl, s'.y, a.CY, dx, _, _, rfl, hyd, T.cl_Yard, T.n_Yard_today, yF_today _ _ _, _, rfl, _, _, rfl, rfl, _, rfl, s'.y, a.CY, dx, _, rfl, hyd, T.cl_Yard, T.n_Yard_today, (by show 5 < 1000; decide), ?_⟩
    rw [yF_putD]
    have Y1 : YardAt a (upd H s'.y (.ins a.CY dx (yF { m with day := m.day + n } s'.dl s'.gl))) s' { m with day := m.day + n } := hy.setYard rfl rfl
    refine ⟨_, rfl, s'.y, a.CY, dx, _, _, rfl, upd_same, T.cl_Yard, T.n_Yard_today, yF_today _ _ _, _, rfl, s'.y, dx, _, rfl, upd_same, yF_no _ _ _ (by decide +kernel), s', _, rfl, Y1, ok.days (by omega), fun H1 l s1 hl => ⟨l, _, rfl, .inl (SqL.of hl), (by show 2 ≤ sizeLine; decide), fun q hq => ?_⟩⟩
    refine k.2 _ s' _ q _ hstep (Int.natCast_nonneg _) ⟨rfl, fun b o e hn => ?_, fun b h => .inl h⟩ ((Y1.same s1).same (same_upd hq)) (fresh_upd (s1.free hq)) ?_
    · refine same_upd hq _ _ (s1 _ _ ?_)
      rw [upd_ne fun z => hn (.inl z)]
      exact e
    · rw [upd_same, nl_length]
      rfl
theorem ok_Yard_bring (T : Txt K mg a) : FnOk P w K mg base (L2.CX P w) 6 a.f_Yard_bring a.fd_Yard_bring ["self", "number"] (sp_Yard_bring a) := by
  refine T.d_Yard_bring.F.okX sc_Yard_bring (fun vs H Q E h => ?_) (fun cdv A outer s H vs Q E hr h => ⟨_, (pss_cons (ps_set (i := 2) sc_Yard_bring.nd rfl (Or.inl rfl) (pe_meth (pv 0) T.cl_Yard T.m_Yard_lent_drum (ok_Yard_lent_drum T) (hr.mono (by decide)) T.d_Yard_lent_drum.b .nil (passes_call (takes_of rfl rfl rfl rfl) (fun _ _ _ _ h => h)) (pa_cons (pv 1) pa_nil)))
      (pss_cons (ps_set (i := 3) sc_Yard_bring.nd rfl (Or.inl rfl) (pe_meth (pv 0) T.cl_Yard T.m_Yard_charge (ok_Yard_charge T) (hr.mono (by decide)) T.d_Yard_charge.b .nil pass0 (pa_cons (pv 2) pa_nil)))
      (pss_cons (ps_fld (pv 2) pe_non rfl)
      (pss_one (ps_ret (pe_lst (pa_cons pe_int (pa_cons (pv 3) (pa_cons (pe_op op_subN (pe_fld (pv 0) rfl) (pe_fld (pv 2) rfl)) pa_nil))))))))), ?_⟩)
  · obtain ⟨s', m, d, rfl, _⟩ := h
    rfl
  · obtain ⟨s', m, d, rfl, hy, ok, k⟩ := h
    obtain ⟨dx, hyd⟩ := hy.yard
    refine ⟨_, rfl, s'.y, dx, _, rfl, hyd, yF_no _ _ _ (by decide +kernel), _, rfl, s', m, d, rfl, hy, fun p z hd hp hz => ?_, fun hd => k.1 _ (by decide) (if_pos (isDrum_no hd)), fun hd hz => k.1 _ (by decide) ?_⟩
    rotate_left
    · refine (if_no (isDrum_of hd)).trans ?_
      rw [hz]
    have hstep : Kp244.step (some m) (.bring d) = (some (Kp244.setGuest (Kp244.setDrum m d { Kp244.drumAt m d with lent := none }) z.1 { Kp244.guestAt m z.1 with owed := (Kp244.guestAt m z.1).owed + Kp244.charge m (Kp244.drumAt m d) z.2.1, pledged := (Kp244.guestAt m z.1).pledged - (Kp244.drumAt m d).pledge }), ⟨0, Kp244.ints [Kp244.charge m (Kp244.drumAt m d) z.2.1, m.day - z.2.1]⟩) := by
      refine (if_no (isDrum_of hd)).trans ?_
      rw [hz]
    obtain ⟨hz1, hz2⟩ := ok.lent _ (drumAt_mem hd) z hz
    refine ⟨_, rfl, s'.y, dx, _, rfl, hyd, yF_no _ _ _ (by decide +kernel), _, rfl, s', m, d, p, z, rfl, hy, ok, hp, hd, hz, fun H1 Y1 kp => ?_⟩
    have hd1 : d < (Kp244.setGuest m z.1 { Kp244.guestAt m z.1 with owed := (Kp244.guestAt m z.1).owed + Kp244.charge m (Kp244.drumAt m d) z.2.1 }).drums.length := hd
    obtain ⟨p', hp', hdr⟩ := Y1.drums.get hd1
    rw [hp] at hp'
    cases hp'
    have hdr : DrumAt a.CD H1 p (Kp244.drumAt m d) := hdr
    obtain ⟨dd, s1, s2, hpd, hl⟩ := id hdr
    obtain ⟨rfl, rfl⟩ := hl z hz
    obtain ⟨dy, hyd1⟩ := Y1.yard
    have ny : s'.y ≠ p := ne_of hyd1 hpd (ins_ne yF_ne_dF)
    refine ⟨_, rfl, p, a.CD, dd, _, rfl, hpd, T.cl_Drum, T.n_Drum_guest, (by show 8 < 1000; decide), ?_⟩
    rw [dF_putG]
    refine ⟨_, rfl, _, rfl, s'.y, a.CY, dy, _, _, rfl, (by rw [upd_ne ny]; exact hyd1), T.cl_Yard, T.n_Yard_today, yF_today _ _ _, _, rfl, p, a.CD, dd, _, _, rfl, upd_same, T.cl_Drum, T.n_Drum_since, dF_since _ _ _ _, m.day, z.2.1, rfl, rfl, hz2, (by show 3 ≤ sizeLine; decide), fun q hq => ?_⟩
    have Y2 := Y1.setDrum (x' := { Kp244.drumAt m d with lent := none }) hp hd1 (o := .ins a.CD dd (dF (Kp244.drumAt m d) .non z.2.1 z.2.2)) ⟨dd, z.2.1, z.2.2, upd_same, fun z e => by cases e⟩
    have Y3 : YardAt a _ s' (Kp244.setGuest (Kp244.setDrum m d { Kp244.drumAt m d with lent := none }) z.1 { Kp244.guestAt m z.1 with owed := (Kp244.guestAt m z.1).owed + Kp244.charge m (Kp244.drumAt m d) z.2.1, pledged := (Kp244.guestAt m z.1).pledged - (Kp244.drumAt m d).pledge }) := Y2.pledged rfl rfl rfl rfl (by
        show (m.guests.set z.1 _).length = (m.guests.set z.1 _).length
        rw [List.length_set, List.length_set]) fun i g1 g2 h1 h2 => by
      have h1 : (m.guests.set z.1 { Kp244.guestAt m z.1 with owed := (Kp244.guestAt m z.1).owed + Kp244.charge m (Kp244.drumAt m d) z.2.1 })[i]? = some g1 := h1
      have h2 : (m.guests.set z.1 { Kp244.guestAt m z.1 with owed := (Kp244.guestAt m z.1).owed + Kp244.charge m (Kp244.drumAt m d) z.2.1, pledged := (Kp244.guestAt m z.1).pledged - (Kp244.drumAt m d).pledge })[i]? = some g2 := h2
      by_cases e : i = z.1
      · rw [e] at h1 h2
        rw [List.getElem?_set_self hz1] at h1 h2
        cases h1
        cases h2
        exact ⟨rfl, rfl⟩
      · rw [List.getElem?_set_ne (Ne.symm e)] at h1 h2
        rw [h1] at h2
        cases h2
        exact ⟨rfl, rfl⟩
    have hq1 : H1 q = none := fresh_upd hq
    have hqH : H q = none := by
      cases e : H q with
      | none => rfl
      | some o =>
        have hn : q ∉ s'.gs := fun hm => by
          obtain ⟨o2, h2⟩ := mem_atG Y1.guests hm
          rw [hq1] at h2
          cases h2
        have := kp q o e hn
        rw [hq1] at this
        cases this
    refine k.2 _ s' _ q _ hstep (Int.le_refl 0) ⟨rfl, fun b o e hn => ?_, fun b h => .inl h⟩ (Y3.same (same_upd hq)) hqH upd_same
    refine same_upd hq _ _ ?_
    rw [upd_ne fun z => hn (by rw [z]; exact own_d hp)]
    exact kp b o e fun z => hn (.inr (.inr (.inr (.inr z))))
theorem ok_Yard_lose (T : Txt K mg a) : FnOk P w K mg base (L2.CX P w) 6 a.f_Yard_lose a.fd_Yard_lose ["self", "number"] (sp_Yard_lose a) := by
  refine T.d_Yard_lose.F.okX sc_Yard_lose (fun vs H Q E h => ?_) (fun cdv A outer s H vs Q E hr h => ⟨_, (pss_cons (ps_set (i := 2) sc_Yard_lose.nd rfl (Or.inl rfl) (pe_meth (pv 0) T.cl_Yard T.m_Yard_lent_drum (ok_Yard_lent_drum T) (hr.mono (by decide)) T.d_Yard_lent_drum.b .nil (passes_call (takes_of rfl rfl rfl rfl) (fun _ _ _ _ h => h)) (pa_cons (pv 1) pa_nil)))
      (pss_cons (ps_expr (pe_meth (pv 0) T.cl_Yard T.m_Yard_charge (ok_Yard_charge T) (hr.mono (by decide)) T.d_Yard_charge.b .nil pass0 (pa_cons (pv 2) pa_nil)))
      (pss_cons (ps_fld (pv 0) (pe_op op_addN (pe_fld (pv 0) rfl) (pe_fld (pv 2) rfl)) rfl)
      (pss_cons (ps_expr (pe_bm PySem.F.plainAttrs_list PySem.F.slot_list_pop PySem.F.type_list_pop mt_popAt (pe_fld (pv 0) rfl) (pa_cons (pv 1) pa_nil)))
      (pss_one (ps_ret (pe_lst (pa_cons pe_int (pa_cons (pe_fld (pv 2) rfl) pa_nil))))))))), ?_⟩)
  · obtain ⟨s', m, d, rfl, _⟩ := h
    rfl
  · obtain ⟨s', m, d, rfl, hy, ok, k⟩ := h
    obtain ⟨dx, hyd⟩ := hy.yard
    refine ⟨_, rfl, s'.y, dx, _, rfl, hyd, yF_no _ _ _ (by decide +kernel), _, rfl, s', m, d, rfl, hy, fun p z hd hp hz => ?_, fun hd => k.1 _ (by decide) (if_pos (isDrum_no hd)), fun hd hz => k.1 _ (by decide) ?_⟩
    rotate_left
    · refine (if_no (isDrum_of hd)).trans ?_
      rw [hz]
    have hstep : Kp244.step (some m) (.lose d) = (some { Kp244.setGuest { m with drums := (m.drums.take d) ++ m.drums.drop (d + 1) } z.1 { Kp244.guestAt m z.1 with owed := (Kp244.guestAt m z.1).owed + Kp244.charge m (Kp244.drumAt m d) z.2.1, pledged := (Kp244.guestAt m z.1).pledged - (Kp244.drumAt m d).pledge } with kept := m.kept + (Kp244.drumAt m d).pledge }, ⟨0, Kp244.ints [(Kp244.drumAt m d).pledge]⟩) := by
      refine (if_no (isDrum_of hd)).trans ?_
      rw [hz]
    obtain ⟨hz1, hz2⟩ := ok.lent _ (drumAt_mem hd) z hz
    have hdn := ok.dn
    refine ⟨_, rfl, s'.y, dx, _, rfl, hyd, yF_no _ _ _ (by decide +kernel), _, rfl, s', m, d, p, z, rfl, hy, ok, hp, hd, hz, fun H1 Y1 kp => ?_⟩
    have hd1 : d < (Kp244.setGuest m z.1 { Kp244.guestAt m z.1 with owed := (Kp244.guestAt m z.1).owed + Kp244.charge m (Kp244.drumAt m d) z.2.1 }).drums.length := hd
    obtain ⟨p', hp', hdr⟩ := Y1.drums.get hd1
    rw [hp] at hp'
    cases hp'
    have hdr : DrumAt a.CD H1 p (Kp244.drumAt m d) := hdr
    obtain ⟨dd, s1, s2, hpd, hl⟩ := id hdr
    obtain ⟨dy, hyd1⟩ := Y1.yard
    refine ⟨_, rfl, s'.y, a.CY, dy, _, _, rfl, hyd1, T.cl_Yard, T.n_Yard_kept, yF_kept _ _ _, _, rfl, p, a.CD, dd, _, _, rfl, hpd, T.cl_Drum, T.n_Drum_pledge, dF_pledge _ _ _ _, _, _, rfl, rfl, _, rfl, s'.y, a.CY, dy, _, rfl, hyd1, T.cl_Yard, T.n_Yard_kept, (by show 5 < 1000; decide), ?_⟩
    rw [yF_putK]
    have Y2 := Y1.setYard (dx := dy) (m' := { Kp244.setGuest m z.1 { Kp244.guestAt m z.1 with owed := (Kp244.guestAt m z.1).owed + Kp244.charge m (Kp244.drumAt m d) z.2.1 } with kept := m.kept + (Kp244.drumAt m d).pledge }) rfl rfl
    refine ⟨_, rfl, s'.y, a.CY, dy, _, _, rfl, upd_same, T.cl_Yard, T.n_Yard_drums, yF_drums _ _ _, .inl ⟨rfl, _, SqL.of Y2.dl⟩, _, rfl, s'.dl, _, d, d, .ref p, rfl, rfl, Y2.dl, by omega, by omega, ?_, (by rw [List.getElem?_map, hp]; rfl), ?_⟩
    · have hlt : (d : Int) < ((s'.ds.map V.ref).length : Int) := by
        rw [List.length_map, hy.drums.1]
        omega
      exact seq_at (by omega)
    have Y3 := Y2.dropDrum d
    have npl : p ≠ s'.dl := ne_of (by
      rw [upd_ne (ne_of hyd1 hpd (ins_ne yF_ne_dF)).symm]
      exact hpd) Y2.dl (fun e => lst_ne e.symm)
    refine ⟨_, rfl, p, a.CD, dd, _, _, rfl, ?_, T.cl_Drum, T.n_Drum_pledge, dF_pledge (Kp244.drumAt m d) (guestV (Kp244.drumAt m d)) s1 s2, (by show 2 ≤ sizeLine; decide), fun q hq => ?_⟩
    · rw [upd_ne npl, upd_ne (ne_of hyd1 hpd (ins_ne yF_ne_dF)).symm]
      exact hpd
    have Y4 : YardAt a _ { s' with ds := s'.ds.eraseIdx d } { Kp244.setGuest { m with drums := (m.drums.take d) ++ m.drums.drop (d + 1) } z.1 { Kp244.guestAt m z.1 with owed := (Kp244.guestAt m z.1).owed + Kp244.charge m (Kp244.drumAt m d) z.2.1, pledged := (Kp244.guestAt m z.1).pledged - (Kp244.drumAt m d).pledge } with kept := m.kept + (Kp244.drumAt m d).pledge } := Y3.pledged rfl rfl rfl (by
        show m.drums.take d ++ m.drums.drop (d + 1) = m.drums.eraseIdx d
        rw [List.eraseIdx_eq_take_drop_succ]) (by
        show (m.guests.set z.1 _).length = (m.guests.set z.1 _).length
        rw [List.length_set, List.length_set]) fun i g1 g2 h1 h2 => by
      have h1 : (m.guests.set z.1 { Kp244.guestAt m z.1 with owed := (Kp244.guestAt m z.1).owed + Kp244.charge m (Kp244.drumAt m d) z.2.1 })[i]? = some g1 := h1
      have h2 : (m.guests.set z.1 { Kp244.guestAt m z.1 with owed := (Kp244.guestAt m z.1).owed + Kp244.charge m (Kp244.drumAt m d) z.2.1, pledged := (Kp244.guestAt m z.1).pledged - (Kp244.drumAt m d).pledge })[i]? = some g2 := h2
      by_cases e : i = z.1
      · rw [e] at h1 h2
        rw [List.getElem?_set_self hz1] at h1 h2
        cases h1
        cases h2
        exact ⟨rfl, rfl⟩
      · rw [List.getElem?_set_ne (Ne.symm e)] at h1 h2
        rw [h1] at h2
        cases h2
        exact ⟨rfl, rfl⟩
    have hq1 : H1 q = none := fresh_upd (fresh_upd hq)
    have hqH : H q = none := by
      cases e : H q with
      | none => rfl
      | some o =>
        have hn : q ∉ s'.gs := fun hm => by
          obtain ⟨o2, h2⟩ := mem_atG Y1.guests hm
          rw [hq1] at h2
          cases h2
        have := kp q o e hn
        rw [hq1] at this
        cases this
    refine k.2 _ { s' with ds := s'.ds.eraseIdx d } _ q _ hstep (Int.le_refl 0) ⟨rfl, fun b o e hn => ?_, fun b h => ?_⟩ (Y4.same (same_upd hq)) hqH upd_same
    · refine same_upd hq _ _ ?_
      rw [upd_ne fun z => hn (.inr (.inl z)), upd_ne fun z => hn (.inl z)]
      exact kp b o e fun z => hn (.inr (.inr (.inr (.inr z))))
    · rcases h with h | h | h | h | h
      · exact .inl (.inl h)
      · exact .inl (.inr (.inl h))
      · exact .inl (.inr (.inr (.inl h)))
      · exact .inl (.inr (.inr (.inr (.inl (List.mem_of_mem_eraseIdx h)))))
      · exact .inl (.inr (.inr (.inr (.inr h))))
end
end Ld
/-! The dispatchers, the desk. -/
namespace Ld
open PySem PySem.Spec PyProof.Rows L2
def sp_Yard_respond_guests (a : Ad) : Sp := fun vs H Q E => ∃ (s : YS) (m : Kp244.Yard) (c : Kp244.Call) (l : Addr), vs = [.ref s.y, ni (codeOf c).1, .ref l] ∧ H l = some (.lst (nl (codeOf c).2)) ∧ 11 ≤ (codeOf c).1 ∧ YardAt a H s m ∧ YardOk m ∧ Ans1 a H s m (Kp244.step (some m) c) Q E
def sp_Yard_respond_drums (a : Ad) : Sp := fun vs H Q E => ∃ (s : YS) (m : Kp244.Yard) (c : Kp244.Call) (l : Addr), vs = [.ref s.y, ni (codeOf c).1, .ref l] ∧ H l = some (.lst (nl (codeOf c).2)) ∧ 1 ≤ (codeOf c).1 ∧ YardAt a H s m ∧ YardOk m ∧ Ans1 a H s m (Kp244.step (some m) c) Q E
theorem late_length (m : Kp244.Yard) : (Kp244.late m).length ≤ m.drums.length := by
  unfold Kp244.late
  have := List.length_filter_le (fun d => match (Kp244.drumAt m d).lent with
    | some z => decide (z.2.2 < m.day)
    | none => false) (Kp244.all m)
  unfold Kp244.all at *
  rw [List.length_range] at this
  exact this
section
variable {P : Program} {w : World} {K : PySem.W.Frag} {mg : Str → Option Value} {base : Heap} {a : Ad}
theorem ok_Yard_respond_guests (T : Txt K mg a) : FnOk P w K mg base (L2.CX P w) 7 a.f_Yard_respond_guests a.fd_Yard_respond_guests ["self", "call", "numbers"] (sp_Yard_respond_guests a) := by
  refine T.d_Yard_respond_guests.F.okX sc_Yard_respond_guests (fun vs H Q E h => ?_) (fun cdv A outer s H vs Q E hr h => ⟨_, (pss_cons (ps_if (pt_cmpR op_eq (pv 1) pe_int (nomark _)) (pss_one (ps_ret (pe_meth (pv 0) T.cl_Yard T.m_Yard_pay (ok_Yard_pay T) (hr.mono (by decide)) T.d_Yard_pay.b .nil (passes_call (takes_of rfl rfl rfl rfl) (fun _ _ _ _ h => h)) (pa_cons (pe_ix ix_list (pv 2) pe_int (fun _ _ => rfl)) (pa_cons (pe_ix ix_list (pv 2) pe_int (fun _ _ => rfl)) pa_nil))))) pss_nil)
      (pss_cons (ps_if (pt_cmpR op_eq (pv 1) pe_int (nomark _)) (pss_one (ps_ret (pe_meth (pv 0) T.cl_Yard T.m_Yard_pass_days (ok_Yard_pass_days T) (hr.mono (by decide)) T.d_Yard_pass_days.b .nil (passes_call (takes_of rfl rfl rfl rfl) (fun _ _ _ _ h => h)) (pa_cons (pe_ix ix_list (pv 2) pe_int (fun _ _ => rfl)) pa_nil)))) pss_nil)
      (pss_cons (ps_if (pt_cmpR op_eq (pv 1) pe_int (nomark _)) (pss_one (ps_ret (pe_meth (pv 0) T.cl_Yard T.m_Yard_told_owed (ok_Yard_told_owed T) (hr.mono (by decide)) T.d_Yard_told_owed.b .nil (passes_call (takes_of rfl rfl rfl rfl) (fun _ _ _ _ h => h)) (pa_cons (pe_ix ix_list (pv 2) pe_int (fun _ _ => rfl)) pa_nil)))) pss_nil)
      (pss_cons (ps_if (pt_cmpR op_eq (pv 1) pe_int (nomark _)) (pss_one (ps_ret (pe_meth (pv 0) T.cl_Yard T.m_Yard_told_would (ok_Yard_told_would T) (hr.mono (by decide)) T.d_Yard_told_would.b .nil (passes_call (takes_of rfl rfl rfl rfl) (fun _ _ _ _ h => h)) (pa_cons (pe_ix ix_list (pv 2) pe_int (fun _ _ => rfl)) pa_nil)))) pss_nil)
      (pss_cons (ps_if (pt_cmpR op_eq (pv 1) pe_int (nomark _)) (pss_one (ps_ret (pe_meth (pv 0) T.cl_Yard T.m_Yard_told_lent (ok_Yard_told_lent T) (hr.mono (by decide)) T.d_Yard_told_lent.b .nil (passes_call (takes_of rfl rfl rfl rfl) (fun _ _ _ _ h => h)) (pa_cons (pe_ix ix_list (pv 2) pe_int (fun _ _ => rfl)) pa_nil)))) pss_nil)
      (pss_cons (ps_if (pt_cmpR op_eq (pv 1) pe_int (nomark _)) (pss_one (ps_ret (pe_call (ok_told_list T) (hr.mono (by decide)) rfl T.g_told_list T.d_told_list.F.kp T.d_told_list.b .nil pass0 (pa_cons (pe_meth0 (pv 0) T.cl_Yard T.m_Yard_late_drums (ok_Yard_late_drums T) (hr.mono (by decide)) T.d_Yard_late_drums.b .nil pass0) pa_nil)))) pss_nil)
      (pss_cons (ps_if (pt_cmpR op_eq (pv 1) pe_int (nomark _)) (pss_one (ps_ret (pe_meth (pv 0) T.cl_Yard T.m_Yard_told_eaten (ok_Yard_told_eaten T) (hr.mono (by decide)) T.d_Yard_told_eaten.b .nil (passes_call (takes_of rfl rfl rfl rfl) (fun _ _ _ _ h => h)) (pa_cons (pe_ix ix_list (pv 2) pe_int (fun _ _ => rfl)) pa_nil)))) pss_nil)
      (pss_cons (ps_if (pt_cmpR op_eq (pv 1) pe_int (nomark _)) (pss_one (ps_ret (pe_call (ok_told_list T) (hr.mono (by decide)) rfl T.g_told_list T.d_told_list.F.kp T.d_told_list.b .nil pass0 (pa_cons (pe_meth0 (pv 0) T.cl_Yard T.m_Yard_free_drums (ok_Yard_free_drums T) (hr.mono (by decide)) T.d_Yard_free_drums.b .nil pass0) pa_nil)))) pss_nil)
      (pss_one (ps_ret (pe_ifExp (pt_cmpR op_eq (pv 1) pe_int (nomark _)) (pe_meth (pv 0) T.cl_Yard T.m_Yard_told_drum (ok_Yard_told_drum T) (hr.mono (by decide)) T.d_Yard_told_drum.b .nil (passes_call (takes_of rfl rfl rfl rfl) (fun _ _ _ _ h => h)) (pa_cons (pe_ix ix_list (pv 2) pe_int (fun _ _ => rfl)) pa_nil)) (pe_meth0 (pv 0) T.cl_Yard T.m_Yard_told_sums (ok_Yard_told_sums T) (hr.mono (by decide)) T.d_Yard_told_sums.b .nil pass0)))))))))))), ?_⟩)
  · obtain ⟨s', m, c, l, rfl, _⟩ := h
    rfl
  · obtain ⟨s', m, c, l, rfl, hl, h11, hy, ok, k⟩ := h
    obtain ⟨dx, hyd⟩ := hy.yard
    have hdn := ok.dn
    generalize hk : (codeOf c).1 = kk at h11 ⊢
    cases c with
    | pay g n =>
      obtain rfl : kk = 11 := hk.symm
      refine ⟨_, rfl, rfl, _, rfl, if_true_of (int_eq _) ?_⟩
      exact ⟨_, rfl, s'.y, dx, _, rfl, hyd, yF_no _ _ _ (by decide +kernel), _, rfl, l, _, ((0 : Nat) : Int), _, rfl, rfl, SqL.of hl, atI_nat (j := 0) rfl, _, rfl, l, _, ((1 : Nat) : Int), _, rfl, rfl, SqL.of hl, atI_nat (j := 1) rfl, s', m, g, n, rfl, hy, ok, k⟩
    | days n =>
      obtain rfl : kk = 12 := hk.symm
      repeat refine ⟨_, rfl, rfl, _, rfl, if_false_of (int_ne (by decide)) ?_⟩
      refine ⟨_, rfl, rfl, _, rfl, if_true_of (int_eq _) ?_⟩
      exact ⟨_, rfl, s'.y, dx, _, rfl, hyd, yF_no _ _ _ (by decide +kernel), _, rfl, l, _, ((0 : Nat) : Int), _, rfl, rfl, SqL.of hl, atI_nat (j := 0) rfl, s', m, n, rfl, hy, ok, k⟩
    | owes n =>
      obtain rfl : kk = 13 := hk.symm
      repeat refine ⟨_, rfl, rfl, _, rfl, if_false_of (int_ne (by decide)) ?_⟩
      refine ⟨_, rfl, rfl, _, rfl, if_true_of (int_eq _) ?_⟩
      exact ⟨_, rfl, s'.y, dx, _, rfl, hyd, yF_no _ _ _ (by decide +kernel), _, rfl, l, _, ((0 : Nat) : Int), _, rfl, rfl, SqL.of hl, atI_nat (j := 0) rfl, s', m, n, rfl, hy, ok, k⟩
    | would n =>
      obtain rfl : kk = 14 := hk.symm
      repeat refine ⟨_, rfl, rfl, _, rfl, if_false_of (int_ne (by decide)) ?_⟩
      refine ⟨_, rfl, rfl, _, rfl, if_true_of (int_eq _) ?_⟩
      exact ⟨_, rfl, s'.y, dx, _, rfl, hyd, yF_no _ _ _ (by decide +kernel), _, rfl, l, _, ((0 : Nat) : Int), _, rfl, rfl, SqL.of hl, atI_nat (j := 0) rfl, s', m, n, rfl, hy, ok, k⟩
    | lentTo n =>
      obtain rfl : kk = 15 := hk.symm
      repeat refine ⟨_, rfl, rfl, _, rfl, if_false_of (int_ne (by decide)) ?_⟩
      refine ⟨_, rfl, rfl, _, rfl, if_true_of (int_eq _) ?_⟩
      exact ⟨_, rfl, s'.y, dx, _, rfl, hyd, yF_no _ _ _ (by decide +kernel), _, rfl, l, _, ((0 : Nat) : Int), _, rfl, rfl, SqL.of hl, atI_nat (j := 0) rfl, s', m, n, rfl, hy, ok, k⟩
    | late =>
      obtain rfl : kk = 16 := hk.symm
      repeat refine ⟨_, rfl, rfl, _, rfl, if_false_of (int_ne (by decide)) ?_⟩
      refine ⟨_, rfl, rfl, _, rfl, if_true_of (int_eq _) ?_⟩
      refine ⟨_, rfl, s'.y, dx, _, rfl, hyd, yF_no _ _ _ (by decide +kernel), s', m, rfl, hy, ok, fun H1 q1 s1 hq1 => ⟨q1, _, rfl, hq1, ?_, fun H2 q s2 hq h2 => ?_⟩⟩
      · have := late_length m
        omega
      · have k : Ans1 a H s' m (some m, Kp244.tellAll (Kp244.late m)) Q E := k
        exact k.yes hy rfl (Int.natCast_nonneg _) (s1.trans s2) (s1.free hq) (by rw [h2, tell_nl])
    | eaten n =>
      obtain rfl : kk = 17 := hk.symm
      repeat refine ⟨_, rfl, rfl, _, rfl, if_false_of (int_ne (by decide)) ?_⟩
      refine ⟨_, rfl, rfl, _, rfl, if_true_of (int_eq _) ?_⟩
      exact ⟨_, rfl, s'.y, dx, _, rfl, hyd, yF_no _ _ _ (by decide +kernel), _, rfl, l, _, ((0 : Nat) : Int), _, rfl, rfl, SqL.of hl, atI_nat (j := 0) rfl, s', m, n, rfl, hy, ok, k⟩
    | freeOnes =>
      obtain rfl : kk = 18 := hk.symm
      repeat refine ⟨_, rfl, rfl, _, rfl, if_false_of (int_ne (by decide)) ?_⟩
      refine ⟨_, rfl, rfl, _, rfl, if_true_of (int_eq _) ?_⟩
      refine ⟨_, rfl, s'.y, dx, _, rfl, hyd, yF_no _ _ _ (by decide +kernel), s', m, rfl, hy, ok, fun H1 q1 s1 hq1 => ⟨q1, _, rfl, hq1, ?_, fun H2 q s2 hq h2 => ?_⟩⟩
      · have : (frees m).length ≤ m.drums.length := filter_range_le _ _
        omega
      · have k : Ans1 a H s' m (some m, Kp244.tellAll (frees m)) Q E := k
        exact k.yes hy rfl (Int.natCast_nonneg _) (s1.trans s2) (s1.free hq) (by rw [h2, tell_nl])
    | look n =>
      obtain rfl : kk = 19 := hk.symm
      repeat refine ⟨_, rfl, rfl, _, rfl, if_false_of (int_ne (by decide)) ?_⟩
      refine ⟨_, rfl, rfl, _, rfl, if_true_of (int_eq _) ?_⟩
      exact ⟨_, rfl, s'.y, dx, _, rfl, hyd, yF_no _ _ _ (by decide +kernel), _, rfl, l, _, ((0 : Nat) : Int), _, rfl, rfl, SqL.of hl, atI_nat (j := 0) rfl, s', m, n, rfl, hy, ok, k⟩
    | sums =>
      obtain rfl : kk = 20 := hk.symm
      repeat refine ⟨_, rfl, rfl, _, rfl, if_false_of (int_ne (by decide)) ?_⟩
      exact ⟨_, rfl, s'.y, dx, _, rfl, hyd, yF_no _ _ _ (by decide +kernel), s', m, rfl, hy, ok, ⟨(fun code hc e => by cases e), k.2⟩⟩
    | begin_ f => exact absurd h11 (by rw [← hk]; show ¬ 11 ≤ 0; decide)
    | drum c f w a p => exact absurd h11 (by rw [← hk]; show ¬ 11 ≤ 1; decide)
    | guest => exact absurd h11 (by rw [← hk]; show ¬ 11 ≤ 2; decide)
    | holds d t => exact absurd h11 (by rw [← hk]; show ¬ 11 ≤ 3; decide)
    | thickest d m => exact absurd h11 (by rw [← hk]; show ¬ 11 ≤ 4; decide)
    | fit t m => exact absurd h11 (by rw [← hk]; show ¬ 11 ≤ 5; decide)
    | plan t a b c d e => exact absurd h11 (by rw [← hk]; show ¬ 11 ≤ 6; decide)
    | costs t a b c d e => exact absurd h11 (by rw [← hk]; show ¬ 11 ≤ 7; decide)
    | lend d g n => exact absurd h11 (by rw [← hk]; show ¬ 11 ≤ 8; decide)
    | bring d => exact absurd h11 (by rw [← hk]; show ¬ 11 ≤ 9; decide)
    | lose d => exact absurd h11 (by rw [← hk]; show ¬ 11 ≤ 10; decide)
theorem ok_Yard_respond_drums (T : Txt K mg a) : FnOk P w K mg base (L2.CX P w) 8 a.f_Yard_respond_drums a.fd_Yard_respond_drums ["self", "call", "numbers"] (sp_Yard_respond_drums a) := by
  refine T.d_Yard_respond_drums.F.okX sc_Yard_respond_drums (fun vs H Q E h => ?_) (fun cdv A outer s H vs Q E hr h => ⟨_, (pss_cons (ps_if (pt_cmpR op_eq (pv 1) pe_int (nomark _)) (pss_one (ps_ret (pe_meth (pv 0) T.cl_Yard T.m_Yard_add_drum (ok_Yard_add_drum T) (hr.mono (by decide)) T.d_Yard_add_drum.b .nil (passes_call (takes_of rfl rfl rfl rfl) (fun _ _ _ _ h => h)) (pa_cons (pv 2) pa_nil)))) pss_nil)
      (pss_cons (ps_if (pt_cmpR op_eq (pv 1) pe_int (nomark _)) (pss_one (ps_ret (pe_meth0 (pv 0) T.cl_Yard T.m_Yard_add_guest (ok_Yard_add_guest T) (hr.mono (by decide)) T.d_Yard_add_guest.b .nil (passes_call (takes_of rfl rfl rfl rfl) (fun _ _ _ _ h => h))))) pss_nil)
      (pss_cons (ps_if (pt_cmpR op_eq (pv 1) pe_int (nomark _)) (pss_one (ps_ret (pe_meth (pv 0) T.cl_Yard T.m_Yard_told_room (ok_Yard_told_room T) (hr.mono (by decide)) T.d_Yard_told_room.b .nil (passes_call (takes_of rfl rfl rfl rfl) (fun _ _ _ _ h => h)) (pa_cons (pe_ix ix_list (pv 2) pe_int (fun _ _ => rfl)) (pa_cons (pe_ix ix_list (pv 2) pe_int (fun _ _ => rfl)) pa_nil))))) pss_nil)
      (pss_cons (ps_if (pt_cmpR op_eq (pv 1) pe_int (nomark _)) (pss_one (ps_ret (pe_meth (pv 0) T.cl_Yard T.m_Yard_thickest (ok_Yard_thickest T) (hr.mono (by decide)) T.d_Yard_thickest.b .nil (passes_call (takes_of rfl rfl rfl rfl) (fun _ _ _ _ h => h)) (pa_cons (pe_ix ix_list (pv 2) pe_int (fun _ _ => rfl)) (pa_cons (pe_ix ix_list (pv 2) pe_int (fun _ _ => rfl)) pa_nil))))) pss_nil)
      (pss_cons (ps_if (pt_cmpR op_eq (pv 1) pe_int (nomark _)) (pss_one (ps_ret (pe_meth (pv 0) T.cl_Yard T.m_Yard_fit (ok_Yard_fit T) (hr.mono (by decide)) T.d_Yard_fit.b .nil (passes_call (takes_of rfl rfl rfl rfl) (fun _ _ _ _ h => h)) (pa_cons (pe_ix ix_list (pv 2) pe_int (fun _ _ => rfl)) (pa_cons (pe_ix ix_list (pv 2) pe_int (fun _ _ => rfl)) pa_nil))))) pss_nil)
      (pss_cons (ps_if (pt_cmpR op_eq (pv 1) pe_int (nomark _)) (pss_one (ps_ret (pe_call (ok_told_list T) (hr.mono (by decide)) rfl T.g_told_list T.d_told_list.F.kp T.d_told_list.b .nil pass0 (pa_cons (pe_meth (pv 0) T.cl_Yard T.m_Yard_plan (ok_Yard_plan T) (hr.mono (by decide)) T.d_Yard_plan.b .nil (passes_call (takes_of rfl rfl rfl rfl) (fun _ _ _ _ h => h)) (pa_cons (pe_ix ix_list (pv 2) pe_int (fun _ _ => rfl)) (pa_cons (pe_slice sl_list (pv 2) (po_some pe_int) po_none) pa_nil))) pa_nil)))) pss_nil)
      (pss_cons (ps_if (pt_cmpR op_eq (pv 1) pe_int (nomark _)) (pss_one (ps_ret (pe_meth (pv 0) T.cl_Yard T.m_Yard_told_costs (ok_Yard_told_costs T) (hr.mono (by decide)) T.d_Yard_told_costs.b .nil (passes_call (takes_of rfl rfl rfl rfl) (fun _ _ _ _ h => h)) (pa_cons (pe_ix ix_list (pv 2) pe_int (fun _ _ => rfl)) (pa_cons (pe_slice sl_list (pv 2) (po_some pe_int) po_none) pa_nil))))) pss_nil)
      (pss_cons (ps_if (pt_cmpR op_eq (pv 1) pe_int (nomark _)) (pss_one (ps_ret (pe_meth (pv 0) T.cl_Yard T.m_Yard_lend (ok_Yard_lend T) (hr.mono (by decide)) T.d_Yard_lend.b .nil (passes_call (takes_of rfl rfl rfl rfl) (fun _ _ _ _ h => h)) (pa_cons (pe_ix ix_list (pv 2) pe_int (fun _ _ => rfl)) (pa_cons (pe_ix ix_list (pv 2) pe_int (fun _ _ => rfl)) (pa_cons (pe_ix ix_list (pv 2) pe_int (fun _ _ => rfl)) pa_nil)))))) pss_nil)
      (pss_cons (ps_if (pt_cmpR op_eq (pv 1) pe_int (nomark _)) (pss_one (ps_ret (pe_meth (pv 0) T.cl_Yard T.m_Yard_bring (ok_Yard_bring T) (hr.mono (by decide)) T.d_Yard_bring.b .nil (passes_call (takes_of rfl rfl rfl rfl) (fun _ _ _ _ h => h)) (pa_cons (pe_ix ix_list (pv 2) pe_int (fun _ _ => rfl)) pa_nil)))) pss_nil)
      (pss_one (ps_ret (pe_ifExp (pt_cmpR op_eq (pv 1) pe_int (nomark _)) (pe_meth (pv 0) T.cl_Yard T.m_Yard_lose (ok_Yard_lose T) (hr.mono (by decide)) T.d_Yard_lose.b .nil (passes_call (takes_of rfl rfl rfl rfl) (fun _ _ _ _ h => h)) (pa_cons (pe_ix ix_list (pv 2) pe_int (fun _ _ => rfl)) pa_nil)) (pe_meth (pv 0) T.cl_Yard T.m_Yard_respond_guests (ok_Yard_respond_guests T) (hr.mono (by decide)) T.d_Yard_respond_guests.b .nil (passes_call (takes_of rfl rfl rfl rfl) (fun _ _ _ _ h => h)) (pa_cons (pv 1) (pa_cons (pv 2) pa_nil))))))))))))))), ?_⟩)
  · obtain ⟨s', m, c, l, rfl, _⟩ := h
    rfl
  · obtain ⟨s', m, c, l, rfl, hl, h1, hy, ok, k⟩ := h
    obtain ⟨dx, hyd⟩ := hy.yard
    have hdn := ok.dn
    generalize hk : (codeOf c).1 = kk at h1 ⊢
    cases c with
    | begin_ f => exact absurd h1 (by rw [← hk]; show ¬ 1 ≤ 0; decide)
    | drum c f w b p =>
      obtain rfl : kk = 1 := hk.symm
      refine ⟨_, rfl, rfl, _, rfl, if_true_of (int_eq _) ?_⟩
      exact ⟨_, rfl, s'.y, dx, _, rfl, hyd, yF_no _ _ _ (by decide +kernel), _, rfl, s', m, l, c, f, w, b, p, rfl, hl, hy, ok, k⟩
    | guest =>
      obtain rfl : kk = 2 := hk.symm
      repeat refine ⟨_, rfl, rfl, _, rfl, if_false_of (int_ne (by decide)) ?_⟩
      refine ⟨_, rfl, rfl, _, rfl, if_true_of (int_eq _) ?_⟩
      exact ⟨_, rfl, s'.y, dx, _, rfl, hyd, yF_no _ _ _ (by decide +kernel), s', m, rfl, hy, ok, k⟩
    | holds x y =>
      obtain rfl : kk = 3 := hk.symm
      repeat refine ⟨_, rfl, rfl, _, rfl, if_false_of (int_ne (by decide)) ?_⟩
      refine ⟨_, rfl, rfl, _, rfl, if_true_of (int_eq _) ?_⟩
      exact ⟨_, rfl, s'.y, dx, _, rfl, hyd, yF_no _ _ _ (by decide +kernel), _, rfl, l, _, ((0 : Nat) : Int), _, rfl, rfl, SqL.of hl, atI_nat (j := 0) rfl, _, rfl, l, _, ((1 : Nat) : Int), _, rfl, rfl, SqL.of hl, atI_nat (j := 1) rfl, s', m, x, y, rfl, hy, ok, k⟩
    | thickest x y =>
      obtain rfl : kk = 4 := hk.symm
      repeat refine ⟨_, rfl, rfl, _, rfl, if_false_of (int_ne (by decide)) ?_⟩
      refine ⟨_, rfl, rfl, _, rfl, if_true_of (int_eq _) ?_⟩
      exact ⟨_, rfl, s'.y, dx, _, rfl, hyd, yF_no _ _ _ (by decide +kernel), _, rfl, l, _, ((0 : Nat) : Int), _, rfl, rfl, SqL.of hl, atI_nat (j := 0) rfl, _, rfl, l, _, ((1 : Nat) : Int), _, rfl, rfl, SqL.of hl, atI_nat (j := 1) rfl, s', m, x, y, rfl, hy, ok, k⟩
    | fit x y =>
      obtain rfl : kk = 5 := hk.symm
      repeat refine ⟨_, rfl, rfl, _, rfl, if_false_of (int_ne (by decide)) ?_⟩
      refine ⟨_, rfl, rfl, _, rfl, if_true_of (int_eq _) ?_⟩
      exact ⟨_, rfl, s'.y, dx, _, rfl, hyd, yF_no _ _ _ (by decide +kernel), _, rfl, l, _, ((0 : Nat) : Int), _, rfl, rfl, SqL.of hl, atI_nat (j := 0) rfl, _, rfl, l, _, ((1 : Nat) : Int), _, rfl, rfl, SqL.of hl, atI_nat (j := 1) rfl, s', m, x, y, rfl, hy, ok, k⟩
    | plan t b1 b2 b3 b4 b5 =>
      obtain rfl : kk = 6 := hk.symm
      repeat refine ⟨_, rfl, rfl, _, rfl, if_false_of (int_ne (by decide)) ?_⟩
      refine ⟨_, rfl, rfl, _, rfl, if_true_of (int_eq _) ?_⟩
      have k : Ans1 a H s' m (some m, if Kp244.okLengths t ([b1, b2, b3, b4, b5].filter fun x => x != 0) = false then Kp244.say (-22) else match Kp244.best m t ([b1, b2, b3, b4, b5].filter fun x => x != 0) with
        | some p => Kp244.tellAll p
        | none => Kp244.say (-33)) Q E := k
      refine ⟨_, rfl, s'.y, dx, _, rfl, hyd, yF_no _ _ _ (by decide +kernel), _, rfl, l, _, ((0 : Nat) : Int), _, rfl, rfl, SqL.of hl, atI_nat (j := 0) rfl, _, rfl, _, rfl, l, _, rfl, SqL.of hl, fun D hD => ⟨s', m, t, D, [b1, b2, b3, b4, b5], rfl, (by rw [upd_same]; rfl), rfl, hy.same (same_upd hD), ok, fun e => (k.no (by decide) (if_pos e)).mono (same_upd hD), fun e1 e2 => (k.no (by decide) ?_).mono (same_upd hD), fun p e1 e2 H1 q1 s1 hq1 => ?_⟩⟩
      · rw [if_neg (by rw [e1]; decide), e2]
      · rw [if_neg (by rw [e1]; decide), e2] at k
        have hb := e2
        rw [best_eq] at hb
        have hpl := (bestP_mem hb).1
        have hls : ([b1, b2, b3, b4, b5].filter fun x => x != 0).length ≤ 5 := List.length_filter_le _ _
        refine ⟨q1, p, rfl, hq1, by omega, fun H2 q s2 hq h2 => ?_⟩
        exact k.yes hy rfl (Int.natCast_nonneg _) ((same_upd hD).trans (s1.trans s2)) ((same_upd hD).free (s1.free hq)) (by rw [h2, tell_nl])
    | costs t b1 b2 b3 b4 b5 =>
      obtain rfl : kk = 7 := hk.symm
      repeat refine ⟨_, rfl, rfl, _, rfl, if_false_of (int_ne (by decide)) ?_⟩
      refine ⟨_, rfl, rfl, _, rfl, if_true_of (int_eq _) ?_⟩
      have k : Ans1 a H s' m (some m, if Kp244.okLengths t ([b1, b2, b3, b4, b5].filter fun x => x != 0) = false then Kp244.say (-22) else match Kp244.best m t ([b1, b2, b3, b4, b5].filter fun x => x != 0) with
        | some p => ⟨((Kp244.used m p).length : Int), Kp244.ints [Kp244.daily m p]⟩
        | none => Kp244.say (-33)) Q E := k
      refine ⟨_, rfl, s'.y, dx, _, rfl, hyd, yF_no _ _ _ (by decide +kernel), _, rfl, l, _, ((0 : Nat) : Int), _, rfl, rfl, SqL.of hl, atI_nat (j := 0) rfl, _, rfl, _, rfl, l, _, rfl, SqL.of hl, fun D hD => ⟨s', m, t, D, [b1, b2, b3, b4, b5], rfl, (by rw [upd_same]; rfl), rfl, hy.same (same_upd hD), ok, fun e => (k.no (by decide) (if_pos e)).mono (same_upd hD), fun e1 e2 => (k.no (by decide) ?_).mono (same_upd hD), fun p e1 e2 H1 q s1 hq h2 => ?_⟩⟩
      · rw [if_neg (by rw [e1]; decide), e2]
      · rw [if_neg (by rw [e1]; decide), e2] at k
        exact k.yes hy rfl (Int.natCast_nonneg _) ((same_upd hD).trans s1) ((same_upd hD).free hq) h2
    | lend d g n =>
      obtain rfl : kk = 8 := hk.symm
      repeat refine ⟨_, rfl, rfl, _, rfl, if_false_of (int_ne (by decide)) ?_⟩
      refine ⟨_, rfl, rfl, _, rfl, if_true_of (int_eq _) ?_⟩
      exact ⟨_, rfl, s'.y, dx, _, rfl, hyd, yF_no _ _ _ (by decide +kernel), _, rfl, l, _, ((0 : Nat) : Int), _, rfl, rfl, SqL.of hl, atI_nat (j := 0) rfl, _, rfl, l, _, ((1 : Nat) : Int), _, rfl, rfl, SqL.of hl, atI_nat (j := 1) rfl, _, rfl, l, _, ((2 : Nat) : Int), _, rfl, rfl, SqL.of hl, atI_nat (j := 2) rfl, s', m, d, g, n, rfl, hy, ok, k⟩
    | bring d =>
      obtain rfl : kk = 9 := hk.symm
      repeat refine ⟨_, rfl, rfl, _, rfl, if_false_of (int_ne (by decide)) ?_⟩
      refine ⟨_, rfl, rfl, _, rfl, if_true_of (int_eq _) ?_⟩
      exact ⟨_, rfl, s'.y, dx, _, rfl, hyd, yF_no _ _ _ (by decide +kernel), _, rfl, l, _, ((0 : Nat) : Int), _, rfl, rfl, SqL.of hl, atI_nat (j := 0) rfl, s', m, d, rfl, hy, ok, k⟩
    | lose d =>
      obtain rfl : kk = 10 := hk.symm
      repeat refine ⟨_, rfl, rfl, _, rfl, if_false_of (int_ne (by decide)) ?_⟩
      refine ⟨_, rfl, rfl, _, rfl, if_true_of (int_eq _) ?_⟩
      exact ⟨_, rfl, s'.y, dx, _, rfl, hyd, yF_no _ _ _ (by decide +kernel), _, rfl, l, _, ((0 : Nat) : Int), _, rfl, rfl, SqL.of hl, atI_nat (j := 0) rfl, s', m, d, rfl, hy, ok, k⟩
    | pay g n =>
      obtain rfl : kk = 11 := hk.symm
      repeat refine ⟨_, rfl, rfl, _, rfl, if_false_of (int_ne (by decide)) ?_⟩
      exact ⟨_, rfl, s'.y, dx, _, rfl, hyd, yF_no _ _ _ (by decide +kernel), _, rfl, _, rfl, s', m, .pay g n, l, rfl, hl, (by show 11 ≤ 11; decide), hy, ok, k⟩
    | days n =>
      obtain rfl : kk = 12 := hk.symm
      repeat refine ⟨_, rfl, rfl, _, rfl, if_false_of (int_ne (by decide)) ?_⟩
      exact ⟨_, rfl, s'.y, dx, _, rfl, hyd, yF_no _ _ _ (by decide +kernel), _, rfl, _, rfl, s', m, .days n, l, rfl, hl, (by show 11 ≤ 12; decide), hy, ok, k⟩
    | owes g =>
      obtain rfl : kk = 13 := hk.symm
      repeat refine ⟨_, rfl, rfl, _, rfl, if_false_of (int_ne (by decide)) ?_⟩
      exact ⟨_, rfl, s'.y, dx, _, rfl, hyd, yF_no _ _ _ (by decide +kernel), _, rfl, _, rfl, s', m, .owes g, l, rfl, hl, (by show 11 ≤ 13; decide), hy, ok, k⟩
    | would g =>
      obtain rfl : kk = 14 := hk.symm
      repeat refine ⟨_, rfl, rfl, _, rfl, if_false_of (int_ne (by decide)) ?_⟩
      exact ⟨_, rfl, s'.y, dx, _, rfl, hyd, yF_no _ _ _ (by decide +kernel), _, rfl, _, rfl, s', m, .would g, l, rfl, hl, (by show 11 ≤ 14; decide), hy, ok, k⟩
    | lentTo g =>
      obtain rfl : kk = 15 := hk.symm
      repeat refine ⟨_, rfl, rfl, _, rfl, if_false_of (int_ne (by decide)) ?_⟩
      exact ⟨_, rfl, s'.y, dx, _, rfl, hyd, yF_no _ _ _ (by decide +kernel), _, rfl, _, rfl, s', m, .lentTo g, l, rfl, hl, (by show 11 ≤ 15; decide), hy, ok, k⟩
    | late =>
      obtain rfl : kk = 16 := hk.symm
      repeat refine ⟨_, rfl, rfl, _, rfl, if_false_of (int_ne (by decide)) ?_⟩
      exact ⟨_, rfl, s'.y, dx, _, rfl, hyd, yF_no _ _ _ (by decide +kernel), _, rfl, _, rfl, s', m, .late, l, rfl, hl, (by show 11 ≤ 16; decide), hy, ok, k⟩
    | eaten d =>
      obtain rfl : kk = 17 := hk.symm
      repeat refine ⟨_, rfl, rfl, _, rfl, if_false_of (int_ne (by decide)) ?_⟩
      exact ⟨_, rfl, s'.y, dx, _, rfl, hyd, yF_no _ _ _ (by decide +kernel), _, rfl, _, rfl, s', m, .eaten d, l, rfl, hl, (by show 11 ≤ 17; decide), hy, ok, k⟩
    | freeOnes =>
      obtain rfl : kk = 18 := hk.symm
      repeat refine ⟨_, rfl, rfl, _, rfl, if_false_of (int_ne (by decide)) ?_⟩
      exact ⟨_, rfl, s'.y, dx, _, rfl, hyd, yF_no _ _ _ (by decide +kernel), _, rfl, _, rfl, s', m, .freeOnes, l, rfl, hl, (by show 11 ≤ 18; decide), hy, ok, k⟩
    | look d =>
      obtain rfl : kk = 19 := hk.symm
      repeat refine ⟨_, rfl, rfl, _, rfl, if_false_of (int_ne (by decide)) ?_⟩
      exact ⟨_, rfl, s'.y, dx, _, rfl, hyd, yF_no _ _ _ (by decide +kernel), _, rfl, _, rfl, s', m, .look d, l, rfl, hl, (by show 11 ≤ 19; decide), hy, ok, k⟩
    | sums =>
      obtain rfl : kk = 20 := hk.symm
      repeat refine ⟨_, rfl, rfl, _, rfl, if_false_of (int_ne (by decide)) ?_⟩
      exact ⟨_, rfl, s'.y, dx, _, rfl, hyd, yF_no _ _ _ (by decide +kernel), _, rfl, _, rfl, s', m, .sums, l, rfl, hl, (by show 11 ≤ 20; decide), hy, ok, k⟩
end
end Ld
/-! The desk. -/
namespace Ld
open PySem PySem.Spec PyProof.Rows L2
def DeskAt (a : Ad) (H : Hp) (dk : Addr) : Option (YS × Kp244.Yard) → Prop
  | none => ∃ dx, H dk = some (.ins a.CK dx [("yard", .non)])
  | some o => (∃ dx, H dk = some (.ins a.CK dx [("yard", .ref o.1.y)])) ∧ YardAt a H o.1 o.2 ∧ YardOk o.2
def stOf (o : Option (YS × Kp244.Yard)) : Kp244.State := o.map Prod.snd
def OwnD (dk : Addr) (o : Option (YS × Kp244.Yard)) (b : Addr) : Prop := b = dk ∨ ∃ q, o = some q ∧ Own q.1 b
def sp_Desk_respond (a : Ad) : Sp := fun vs H Q E => ∃ (dk : Addr) (o : Option (YS × Kp244.Yard)) (c : Kp244.Call) (l : Addr), vs = [.ref dk, ni (codeOf c).1, .ref l] ∧ H l = some (.lst (nl (codeOf c).2)) ∧ DeskAt a H dk o ∧
  (∀ code : Int, code < 0 → Kp244.step (stOf o) c = (stOf o, Kp244.say code) → Refuse a H code E) ∧
  ∀ (o' : Option (YS × Kp244.Yard)) (H' : Hp) (q : Addr) (ans : Kp244.Ans), Kp244.step (stOf o) c = (stOf o', ans) → 0 ≤ ans.num → (∀ b u, H b = some u → ¬ OwnD dk o b → H' b = some u) → (∀ b, OwnD dk o' b → OwnD dk o b ∨ H b = none) →
    DeskAt a H' dk o' → H q = none → H' q = some (.lst ((ans.num :: ans.nums).map V.int)) → Q (.ref q) H'
theorem yard_ne {C dx dx' C' : Addr} {v : V} {fs : List (Str × V)} (h : fs.head?.map Prod.fst ≠ some ("yard" : Str)) : HO.ins C dx [("yard", v)] ≠ HO.ins C' dx' fs := ins_ne fun e => h (by rw [← e]; rfl)
/-- the desk is none of the yard's things -/
theorem desk_off {a : Ad} {H : Hp} {s : YS} {m : Kp244.Yard} {dk dx : Addr} {v : V} (hd : H dk = some (.ins a.CK dx [("yard", v)])) (hy : YardAt a H s m) : ¬ Own s dk := by
  intro h
  rcases h with h | h | h | h | h
  · obtain ⟨dy, e⟩ := hy.yard
    exact ne_of hd e (yard_ne (by show some ("free_days" : Str) ≠ some "yard"; decide +kernel)) h
  · exact ne_of hd hy.dl (fun e => lst_ne e.symm) h
  · exact ne_of hd hy.gl (fun e => lst_ne e.symm) h
  · obtain ⟨i, hi, e⟩ := List.getElem_of_mem h
    obtain ⟨d, t1, t2, q, _⟩ := hy.drums.2 i dk _ (by rw [List.getElem?_eq_getElem hi, e]) (List.getElem?_eq_getElem (by rw [← hy.drums.1]; exact hi))
    exact ne_of hd q (yard_ne (by show some ("core" : Str) ≠ some "yard"; decide +kernel)) rfl
  · obtain ⟨i, hi, e⟩ := List.getElem_of_mem h
    obtain ⟨d, q⟩ := hy.guests.2 i dk _ (by rw [List.getElem?_eq_getElem hi, e]) (List.getElem?_eq_getElem (by rw [← hy.guests.1]; exact hi))
    exact ne_of hd q (yard_ne (by show some ("owed" : Str) ≠ some "yard"; decide +kernel)) rfl
/-- a store elsewhere -/
theorem YardAt.off {a : Ad} {H : Hp} {s : YS} {m : Kp244.Yard} (h : YardAt a H s m) {p : Addr} {o : HO} (hp : ¬ Own s p) : YardAt a (upd H p o) s m := by
  obtain ⟨⟨dy, hy⟩, h2, h3, h4, h5, h6, h7, h8⟩ := h
  refine ⟨⟨dy, ?_⟩, ?_, ?_, ⟨h4.1, fun i q z e1 e2 => ?_⟩, ⟨h5.1, fun i q z e1 e2 => ?_⟩, h6, h7, h8⟩
  · rw [upd_ne fun e => hp (.inl e.symm)]; exact hy
  · rw [upd_ne fun e => hp (.inr (.inl e.symm))]; exact h2
  · rw [upd_ne fun e => hp (.inr (.inr (.inl e.symm)))]; exact h3
  · obtain ⟨d, t1, t2, r, r2⟩ := h4.2 i q z e1 e2
    exact ⟨d, t1, t2, by rw [upd_ne fun e => hp (by rw [← e]; exact own_d e1)]; exact r, r2⟩
  · obtain ⟨d, r⟩ := h5.2 i q z e1 e2
    exact ⟨d, by rw [upd_ne fun e => hp (by rw [← e]; exact own_g e1)]; exact r⟩
section
variable {P : Program} {w : World} {K : PySem.W.Frag} {mg : Str → Option Value} {base : Heap} {a : Ad}
theorem ok_Desk_respond (T : Txt K mg a) : FnOk P w K mg base (L2.CX P w) 9 a.f_Desk_respond a.fd_Desk_respond ["self", "call", "numbers"] (sp_Desk_respond a) := by
  refine T.d_Desk_respond.F.okX sc_Desk_respond (fun vs H Q E h => ?_) (fun cdv A outer s H vs Q E hr h => ⟨_, (pss_cons (ps_if (pt_cmpR op_eq (pv 1) pe_int (nomark _)) (pss_cons (ps_expr (pe_call (ok_need T) (hr.mono (by decide)) rfl T.g_need T.d_need.F.kp T.d_need.b .nil (passes_call (takes_of rfl rfl rfl rfl) (fun _ _ _ _ h => h)) (pa_cons (pe_cmpR op_le (pe_ix ix_list (pv 2) pe_int (fun _ _ => rfl)) (pe_cst T.c_MOST_FREE_DAYS) (nomark _)) (pa_cons (pe_cst T.c_WRONG) pa_nil))))
      (pss_cons (ps_fld (pv 0) (pe_make T.mk_Yard (ok_Yard_init T) (hr.mono (by decide)) rfl T.gC_Yard T.d_Yard_init.b .nil pass0 (pa_cons (pe_ix ix_list (pv 2) pe_int (fun _ _ => rfl)) pa_nil)) rfl)
      (pss_one (ps_ret (pe_lst (pa_cons pe_int pa_nil)))))) pss_nil)
      (pss_cons (ps_expr (pe_call (ok_need T) (hr.mono (by decide)) rfl T.g_need T.d_need.F.kp T.d_need.b .nil (passes_call (takes_of rfl rfl rfl rfl) (fun _ _ _ _ h => h)) (pa_cons (pe_cmpR op_notN (pe_fld (pv 0) rfl) pe_non (nomark _)) (pa_cons (pe_cst T.c_NOT_BEGUN) pa_nil))))
      (pss_one (ps_ret (pe_meth (pe_fld (pv 0) rfl) T.cl_Yard T.m_Yard_respond_drums (ok_Yard_respond_drums T) (hr.mono (by decide)) T.d_Yard_respond_drums.b .nil (passes_call (takes_of rfl rfl rfl rfl) (fun _ _ _ _ h => h)) (pa_cons (pv 1) (pa_cons (pv 2) pa_nil))))))), ?_⟩)
  · obtain ⟨dk, o, c, l, rfl, _⟩ := h
    rfl
  · obtain ⟨dk, o, c, l, rfl, hl, hd, kN, kS⟩ := h
    generalize hk : (codeOf c).1 = kk
    by_cases h0 : kk = 0
    · -- begin
      subst h0
      have hc : ∃ f, c = .begin_ f := by
        cases c <;> first | exact ⟨_, rfl⟩ | cases hk
      obtain ⟨f, rfl⟩ := hc
      obtain ⟨dx, v, hdk⟩ : ∃ dx v, H dk = some (.ins a.CK dx [("yard", v)]) := by
        cases o with
        | none => obtain ⟨dx, e⟩ := hd; exact ⟨dx, _, e⟩
        | some q => obtain ⟨⟨dx, e⟩, _⟩ := hd; exact ⟨dx, _, e⟩
      have hst : Kp244.step (stOf o) (.begin_ f) = if 100 < f then (stOf o, Kp244.say (-22)) else (some ⟨0, f, [], [], 0⟩, Kp244.say 0) := rfl
      refine ⟨_, rfl, rfl, _, rfl, if_true_of (int_eq _) ?_⟩
      refine ⟨_, rfl, l, _, ((0 : Nat) : Int), _, rfl, rfl, SqL.of hl, atI_nat (j := 0) rfl, _, _, rfl, rfl, _, _, rfl, fun hb => ?_, fun hb => kN _ (by decide) (by rw [hst, if_pos (by have := of_decide_eq_false hb; omega)])⟩
      have hb := of_decide_eq_true hb
      rw [if_neg (by omega)] at hst
      refine ⟨_, rfl, l, _, ((0 : Nat) : Int), _, rfl, rfl, SqL.of hl, atI_nat (j := 0) rfl, fun x dxx hx hdx hne => ?_⟩
      refine ⟨x, dxx, f, rfl, upd_same, fun H1 dl gl hY kp hdl hgl => ⟨rfl, ?_⟩⟩
      have s1 : Same H H1 := Same.made hx hdx kp
      have hdk1 := s1 _ _ hdk
      refine ⟨_, rfl, dk, a.CK, dx, _, rfl, hdk1, T.cl_Desk, T.n_Desk_yard, (by show 1 < 1000; decide), ?_⟩
      refine ⟨(by show 1 ≤ sizeLine; decide), fun q hq => ?_⟩
      have Y2 := hY.off (o := .ins a.CK dx (putF "yard" (.ref x) [("yard", v)])) (desk_off hdk1 hY)
      have hq1 := fresh_upd hq
      have none_of : ∀ {b : Addr}, upd (upd H dxx (.own x)) x (.ins a.CY dxx []) b = none → H b = none := fun {b} e => fresh_upd (fresh_upd e)
      refine kS (some (⟨x, dl, gl, [], []⟩, ⟨0, f, [], [], 0⟩)) _ q (Kp244.say 0) hst (Int.le_refl 0) (fun b u e hn => ?_) (fun b hb => ?_) ⟨⟨dx, ?_⟩, Y2.same (same_upd hq), ok_new f (by omega)⟩ (s1.free hq1) upd_same
      · refine same_upd hq _ _ ?_
        rw [upd_ne fun z => hn (.inl z)]
        exact s1 _ _ e
      · rcases hb with hb | ⟨qq, e, hb⟩
        · exact .inl (.inl hb)
        · cases e
          right
          rcases hb with hb | hb | hb | hb | hb
          · rw [show b = x from hb]; exact hx
          · rw [show b = dl from hb]; exact none_of hdl
          · rw [show b = gl from hb]; exact none_of hgl
          · cases hb
          · cases hb
      · refine same_upd hq _ _ ?_
        rw [upd_same]
        exact congrArg (fun z => some (HO.ins a.CK dx z)) put_here
    · refine ⟨_, rfl, rfl, _, rfl, if_false_of (int_ne (by omega)) ?_⟩
      cases o with
      | none =>
        obtain ⟨dx, hdk⟩ := hd
        refine ⟨_, rfl, dk, a.CK, dx, _, _, rfl, hdk, T.cl_Desk, T.n_Desk_yard, lk_here, rfl, _, _, rfl, (fun hb => by cases hb), fun _ => kN _ (by decide) ?_⟩
        cases c <;> first | rfl | exact absurd hk.symm h0
      | some q =>
        obtain ⟨s', m⟩ := q
        obtain ⟨⟨dx, hdk⟩, hy, ok⟩ := hd
        have hoff := desk_off hdk hy
        obtain ⟨dy, hyd⟩ := hy.yard
        refine ⟨_, rfl, dk, a.CK, dx, _, _, rfl, hdk, T.cl_Desk, T.n_Desk_yard, lk_here, rfl, _, _, rfl, (fun _ => ?_), fun hb => by cases hb⟩
        refine ⟨_, rfl, dk, a.CK, dx, _, _, rfl, hdk, T.cl_Desk, T.n_Desk_yard, lk_here, s'.y, dy, _, rfl, hyd, yF_no _ _ _ (by decide +kernel), _, rfl, _, rfl, s', m, c, l, by rw [hk]; rfl, hl, by omega, hy, ok, ?_⟩
        refine ⟨fun code hc e => kN code hc e, fun m' s2 H' q ans e hn kp hY hq h2 => ?_⟩
        refine kS (some (s2, m')) H' q ans e hn (fun b u hb hno => kp.old b u hb fun z => hno (.inr ⟨_, rfl, z⟩)) (fun b hb => ?_) ⟨⟨dx, ?_⟩, hY, step_ok ok e⟩ hq h2
        · rcases hb with hb | ⟨qq, e, hb⟩
          · exact .inl (.inl hb)
          · cases e
            rcases kp.own b hb with z | z
            · exact .inl (.inr ⟨_, rfl, z⟩)
            · exact .inr z
        · show H' dk = some (.ins a.CK dx [("yard", .ref s2.y)])
          rw [kp.y]
          exact kp.old _ _ hdk hoff
end
end Ld
/-! answers. -/
namespace Ld
open PySem PySem.Spec PyProof.Rows L2
def sp_answers (K : PySem.W.Frag) : Sp := fun vs H Q _ => ∃ (c0 : Addr) (ns : List Int), vs = [.ref c0] ∧ SqL K H c0 (ns.map V.int) ∧ (∀ x ∈ ns, 0 ≤ x) ∧ PyKp244.answers_asked ns = true ∧
  ∀ (H' : Hp) (q : Addr), H' q = some (.lst ((PyKp244.answers ns).map V.int)) → Q (.ref q) H'
theorem inInt_nonneg {x : Int} (h : PySem.W.Codec.inInt 0 4294967295 x = true) : 0 ≤ x := (PySem.W.Codec.inInt_iff.mp h).1
theorem counts_at {j n : Nat} (h : cnts[j]? = some n) : (counts.map V.int)[j]? = some (.int (n : Int)) := by
  have e : counts = cnts.map fun (x : Nat) => (x : Int) := rfl
  rw [e, List.getElem?_map, List.getElem?_map, h]
  rfl
theorem slice_at {ns : List Int} {pl n : Nat} (hn : pl + 1 + n ≤ ns.length) : cutV (ns.map V.int) (some ((pl + 1 : Nat) : Int)) (some ((pl + 1 + n : Nat) : Int)) = (((ns.drop (pl + 1)).take n).map V.int) := by
  unfold cutV
  rw [HT.sIx_nat, HT.sIx_nat, List.length_map, show min (pl + 1) ns.length = pl + 1 by omega, show min (pl + 1 + n) ns.length = pl + 1 + n by omega, ← List.map_drop, ← List.map_take, show pl + 1 + n - (pl + 1) = n by omega]
/-- what stands between two turns -/
def Turn (a : Ad) (H : Hp) (ns total : List Int) (dk fl : Addr) (pl : Nat) (o : Option (YS × Kp244.Yard)) (F : List Int) (H' : Hp) : Prop :=
  pl ≤ ns.length ∧ Same H H' ∧ DeskAt a H' dk o ∧ H' fl = some (.lst (F.map V.int)) ∧ (∀ b, OwnD dk o b → H b = none ∧ b ≠ fl) ∧
  ∃ (f : Nat) (cs : List (List (List Int))), PyFlat.calls PyKp244.shape f (ns.drop pl) = some cs ∧ total = F ++ PyFlat.told (PyFlat.played Kp244Neutral.step (stOf o) cs)
theorem DeskAt.same {a : Ad} {H H' : Hp} {dk : Addr} {o : Option (YS × Kp244.Yard)} (e : Same H H') (h : DeskAt a H dk o) : DeskAt a H' dk o := by
  cases o with
  | none =>
    obtain ⟨dx, q⟩ := h
    exact ⟨dx, e _ _ q⟩
  | some o =>
    obtain ⟨⟨dx, q⟩, hy, ok⟩ := h
    exact ⟨⟨dx, e _ _ q⟩, hy.same e, ok⟩
theorem DeskAt.off {a : Ad} {H : Hp} {dk p : Addr} {u : HO} {o : Option (YS × Kp244.Yard)} (h : DeskAt a H dk o) (hp : ¬ OwnD dk o p) : DeskAt a (upd H p u) dk o := by
  have n1 : dk ≠ p := fun e => hp (.inl e.symm)
  cases o with
  | none =>
    obtain ⟨dx, q⟩ := h
    exact ⟨dx, by rw [upd_ne n1]; exact q⟩
  | some o =>
    obtain ⟨⟨dx, q⟩, hy, ok⟩ := h
    exact ⟨⟨dx, by rw [upd_ne n1]; exact q⟩, hy.off fun z => hp (.inr ⟨_, rfl, z⟩), ok⟩
/-- the turn's end: what was answered (at q, new) is told behind what stood -/
theorem turn_end {a : Ad} {H H1 H2 : Hp} {ns total : List Int} {dk fl q : Addr} {pl n : Nat} {o o' : Option (YS × Kp244.Yard)} {F : List Int} {c : Kp244.Call} {x : List (List Int)} {cs : List (List (List Int))} {f : Nat} {ans : Kp244.Ans}
    (t1 : pl + 1 + n ≤ ns.length) (s1 : Same H H1) (t4 : H1 fl = some (.lst (F.map V.int))) (t5 : ∀ b, OwnD dk o b → H b = none ∧ b ≠ fl) (hfl : H fl = none)
    (hcs : PyFlat.calls PyKp244.shape f (ns.drop (pl + 1 + n)) = some cs) (ht : total = F ++ PyFlat.told (PyFlat.played Kp244Neutral.step (stOf o) (x :: cs))) (hc : Kp244Neutral.callOf x = some c) (htl : total.length ≤ 10000000)
    (hst : Kp244.step (stOf o) c = (stOf o', ans)) (hold : ∀ b u, H1 b = some u → ¬ OwnD dk o b → H2 b = some u) (hown : ∀ b, OwnD dk o' b → OwnD dk o b ∨ H1 b = none) (hd : DeskAt a H2 dk o')
    (hq : H1 q = none) (hl : H2 q = some (.lst ((ans.num :: ans.nums).map V.int))) :
    H2 fl = some (.lst (F.map V.int)) ∧ q ≠ fl ∧ F.length < sizeLine ∧ F.length + 1 + (ans.nums.length + 1) ≤ sizeLine ∧
    Turn a H ns total dk fl (pl + 1 + n) o' (F ++ (((ans.num :: ans.nums).length : Nat) : Int) :: (ans.num :: ans.nums)) (upd H2 fl (.lst ((F ++ (((ans.num :: ans.nums).length : Nat) : Int) :: (ans.num :: ans.nums)).map V.int))) := by
  have hoff : ¬ OwnD dk o fl := fun z => (t5 fl z).2 rfl
  have hfl2 := hold _ _ t4 hoff
  have law := turn_law hc ht
  rw [hst] at law
  dsimp only at law
  have hlen : F.length + 1 + (ans.nums.length + 1) ≤ 10000000 := by
    have e := congrArg List.length law
    rw [List.length_append, List.length_append, List.length_cons, List.length_cons] at e
    omega
  have hown' : ∀ b, OwnD dk o' b → H b = none ∧ b ≠ fl := fun b hb => by
    rcases hown b hb with z | z
    · exact t5 b z
    · exact ⟨s1.free z, fun e => by rw [e, t4] at z; cases z⟩
  refine ⟨hfl2, (fun e => by rw [e, t4] at hq; cases hq), ?_, ?_, t1, fun b u e => ?_, hd.off fun z => (hown' fl z).2 rfl, upd_same, hown', f, cs, hcs, law⟩
  · rw [sizeLine_eq]
    omega
  · rw [sizeLine_eq]
    omega
  · have n1 : b ≠ fl := ne_of_none e hfl
    rw [upd_ne n1]
    refine hold b u (s1 _ _ e) fun z => ?_
    rw [(t5 b z).1] at e
    cases e
section
variable {P : Program} {w : World} {K : PySem.W.Frag} {mg : Str → Option Value} {base : Heap} {a : Ad}
theorem ok_answers (T : Txt K mg a) : FnOk P w K mg base CX0 10 a.f_answers a.fd_answers ["calls"] (sp_answers K) := by
  refine T.d_answers.F.ok sc_answers (fun vs H Q E h => ?_) (fun cdv A outer s H vs Q E hr h => ⟨_, (pss_cons (ps_set (i := 1) sc_answers.nd rfl (Or.inl rfl) (pe_make0 T.mk_Desk (ok_Desk_init T) (hr.mono (by decide)) rfl T.gC_Desk T.d_Desk_init.b .nil pass0))
      (pss_cons (ps_set (i := 2) sc_answers.nd rfl (Or.inl rfl) (pe_lst pa_nil))
      (pss_cons (ps_set (i := 3) sc_answers.nd rfl (Or.inl rfl) pe_int)
      (pss_cons (ps_while PassesOwn.never (pt_cmpR op_lt (pv 3) (pe_callB call_len_seq (by rfl) T.b_len PySem.boot_len (pa_cons (pv 0) pa_nil)) (nomark _))
        (pss_cons (ps_set (i := 4) sc_answers.nd rfl (Or.inl rfl) (pe_ix ix_list (pv 0) (pv 3) (fun _ _ => rfl)))
      (pss_cons (ps_set (i := 5) sc_answers.nd rfl (Or.inl rfl) (pe_op op_addN (pv 3) pe_int))
      (pss_cons (ps_set (i := 3) sc_answers.nd rfl (Or.inl rfl) (pe_op op_addN (pv 5) (pe_ix ix_tup (pe_cst T.c_COUNTS) (pv 4) (fun _ _ => rfl))))
      (pss_cons (ps_try_as (i := 7) (tb := fun W => tAsg (tMethS a.CK "respond" (sp_Desk_respond a) (WE W) (tVar 1) (tCons (tVar 4) (tCons (tSl (rSlL K) (tVar 0) (tPart (tVar 5)) (tPart (tVar 3))) tNil))) (gName 6))
          (ts := fun e cls d => tAsg (tLst (tCons (tByLow a.CR e cls d (tVar 7)) tNil)) (gName 6)) (Wout := fun _ _ _ _ => False) rfl rfl sc_answers.nd rfl rfl ⟨rfl, by decide, Or.inl T.low.gC⟩ takes0
          (fun W pn xe tk _ => pss_one (ps_set (i := 6) sc_answers.nd rfl (Or.inl rfl) (by exact (pe_methS (pv 1) T.cl_Desk T.m_Desk_respond (ok_Desk_respond T) (hr.mono (by decide)) T.d_Desk_respond.b (fun σ => passAt tk σ) (by exact (pa_cons (pv 4) (pa_cons (pe_slice sl_list (pv 0) (po_some (pv 5)) (po_some (pv 3))) pa_nil)))))))
          (fun e oe cls d pn hz hf => pss_one (ps_set (i := 6) sc_answers.nd rfl (Or.inl rfl) (pe_lst (pa_cons (pe_byLow T.low hz hf (pv 7)) pa_nil)))))
      (pss_cons (ps_expr (pe_bm PySem.F.plainAttrs_list PySem.F.slot_list_append PySem.F.type_list_append mt_append (pv 2) (pa_cons (pe_callB call_len_seq (by rfl) T.b_len PySem.boot_len (pa_cons (pv 6) pa_nil)) pa_nil)))
      (pss_one (ps_expr (pe_bm PySem.F.plainAttrs_list PySem.F.slot_list_extend PySem.F.type_list_extend mt_extend (pv 2) (pa_cons (pv 6) pa_nil))))))))))
      (pss_one (ps_ret (pv 2))))))), ?_⟩)
  · obtain ⟨c0, ns, rfl, _⟩ := h
    rfl
  · obtain ⟨c0, ns, rfl, hns, hpos, hask, k⟩ := h
    obtain ⟨cs0, hcs0, htot, htl⟩ := asked_of hask
    -- desk = Desk()
    intro dk dx hdk hdx hne
    refine ⟨dk, dx, rfl, upd_same, fun H1 hd kp => ⟨rfl, ?_⟩⟩
    have s1 : Same H H1 := Same.made hdk hdx kp
    -- found = []; place = 0
    refine ⟨Nat.zero_le _, fun fl hfl => ?_⟩
    have s2 : Same H (upd H1 fl (.lst [])) := s1.trans (same_upd hfl)
    have hflH : H fl = none := s1.free hfl
    have nfl : dk ≠ fl := fun e => by rw [← e, hd] at hfl; cases hfl
    have start : Turn a H ns (PyKp244.answers ns) dk fl 0 none [] (upd H1 fl (.lst [])) :=
      ⟨Nat.zero_le _, s2, ⟨dx, same_upd hfl _ _ hd⟩, upd_same, (fun b hb => by
        rcases hb with hb | ⟨q, e, _⟩
        · rw [hb]
          exact ⟨hdk, nfl⟩
        · cases e), _, cs0, hcs0, htot⟩
    refine ⟨fun mm σ H' => ∃ (pl : Nat) (v4 v5 v6 : Option V) (o : Option (YS × Kp244.Yard)) (F : List Int), mm = ns.length - pl ∧ σ = [some (.ref c0), some (.ref dk), some (.ref fl), some (ni pl), v4, v5, v6, none] ∧ Turn a H ns (PyKp244.answers ns) dk fl pl o F H',
      ⟨_, 0, none, none, none, none, [], rfl, rfl, start⟩, ?_⟩
    rintro mm σ H2 ⟨pl, v4, v5, v6, o, F, rfl, rfl, t1, t2, t3, t4, t5, f, cs, hcs, ht⟩
    have hS2 : SqL K H2 c0 (ns.map V.int) := t2.seq hns
    have hlen : (ns.map V.int).length = ns.length := List.length_map _
    refine ⟨_, rfl, _, rfl, c0, _, rfl, .inl hS2, _, _, rfl, rfl, _, rfl, ?_⟩
    rw [hlen]
    by_cases hpl : pl < ns.length
    · refine if_true_of (decide_eq_true (by omega)) ?_
      have hdrop : ns.drop pl = ns[pl] :: ns.drop (pl + 1) := List.drop_eq_getElem_cons hpl
      rw [hdrop] at hcs
      obtain ⟨f', n, cs', hsh, hnl, rfl, hcs'⟩ := calls_cons hcs
      rw [List.length_drop] at hnl
      obtain ⟨_, j, hj, hjn⟩ := shape_some hsh
      have hmem : ∀ x ∈ (ns.drop (pl + 1)).take n, 0 ≤ x := fun x hx => hpos x (List.mem_of_mem_drop (List.mem_of_mem_take hx))
      obtain ⟨c, hc, hcp, hca⟩ := call_of hsh (by rw [List.length_take, List.length_drop]; omega) hmem
      have hend : pl + 1 + n ≤ ns.length := by omega
      rw [List.drop_drop] at hcs'
      have hat : (ns.map V.int)[pl]? = some (.int (j : Int)) := by
        rw [List.getElem?_map, List.getElem?_eq_getElem hpl, hj]
        rfl
      have hjc : (j : Int) = ((codeOf c).1 : Int) := by rw [← hj]; exact hcp
      -- call, first, place
      refine ⟨fun σ' H' => ∃ (v4 v5 v6 : Option V) (o : Option (YS × Kp244.Yard)) (F : List Int), σ' = [some (.ref c0), some (.ref dk), some (.ref fl), some (ni (pl + 1 + n)), v4, v5, v6, none] ∧ Turn a H ns (PyKp244.answers ns) dk fl (pl + 1 + n) o F H',
        fun σ' H' ⟨v4, v5, v6, o, F, e, t⟩ => ⟨_, (by omega), pl + 1 + n, v4, v5, v6, o, F, rfl, e, t⟩, ?_⟩
      refine ⟨_, rfl, _, rfl, c0, _, _, _, rfl, rfl, hS2, atI_nat hat, ?_⟩
      refine ⟨_, rfl, pl, 1, rfl, rfl, ?_⟩
      refine ⟨_, rfl, _, rfl, a.Counts, _, _, _, rfl, rfl, T.t_COUNTS _, atI_nat (counts_at hjn), pl + 1, n, rfl, rfl, ?_⟩
      -- try: answer = desk.respond(call, calls[first:place])
      have dproj : ∃ dd v, H2 dk = some (.ins a.CK dd [("yard", v)]) := by
        cases o with
        | none => obtain ⟨dd, e⟩ := t3; exact ⟨dd, _, e⟩
        | some q => obtain ⟨⟨dd, e⟩, _⟩ := t3; exact ⟨dd, _, e⟩
      obtain ⟨dd, v, hdd⟩ := dproj
      refine ⟨_, rfl, dk, dd, _, rfl, hdd, (lk_past (by decide +kernel)).trans rfl, _, rfl, _, rfl, _, rfl, _, rfl, _, rfl, _, rfl, c0, _, rfl, hS2, fun D hD => ?_⟩
      rw [slice_at hend]
      have sD : Same H2 (upd H2 D (.lst (((ns.drop (pl + 1)).take n).map V.int))) := same_upd hD
      refine ⟨dk, o, c, D, by rw [hjc], ?_, t3.same sD, fun code hneg hst => ?_, fun o' H3 q ans hst hnum hold hown hd3 hq hl => ?_⟩
      · rw [upd_same, hca, nl_ints]
      · -- refused
        intro H3 d s3 hd0 hxd
        refine ⟨true, T.low.te, fun _ e0 _ => ?_, fun z => Bool.noConfusion z⟩
        refine ⟨_, rfl, rfl, rfl, d, _, rfl, hxd, (by show 1 ≤ sizeLine; decide), fun q hq => ?_⟩
        have s4 : Same (upd H2 D (.lst (((ns.drop (pl + 1)).take n).map V.int))) (upd H3 q (.lst [.int code])) := s3.trans (same_upd hq)
        obtain ⟨r1, r2, r3, r4, r5⟩ := turn_end (a := a) (o' := o) (q := q) hend (t2.trans sD) (sD _ _ t4) t5 hflH hcs' ht hc htl hst (fun b u e _ => s4 b u e) (fun b hb => .inl hb) ((t3.same sD).same s4) (s3.free hq) upd_same
        refine ⟨_, rfl, .inl ⟨rfl, _, SqL.of r1⟩, _, rfl, q, _, rfl, .inl (SqL.of upd_same), fl, _, _, rfl, rfl, r1, (by rw [List.length_map]; exact r3), ?_⟩
        refine ⟨_, rfl, .inl ⟨rfl, _, SqL.of upd_same⟩, _, rfl, fl, q, _, _, rfl, rfl, upd_same, (by rw [upd_ne r2]; exact upd_same), ?_, ?_⟩
        · rw [List.length_append, List.length_map]
          exact r4
        · refine ⟨_, _, _, o, F ++ ((((Kp244.say code).num :: (Kp244.say code).nums).length : Nat) : Int) :: ((Kp244.say code).num :: (Kp244.say code).nums), rfl, ?_⟩
          rw [upd_upd]
          rw [List.map_append] at r5
          rw [List.append_assoc]
          exact r5
      · -- answered
        obtain ⟨r1, r2, r3, r4, r5⟩ := turn_end (a := a) (o' := o') (q := q) hend (t2.trans sD) (sD _ _ t4) t5 hflH hcs' ht hc htl hst hold hown hd3 hq hl
        refine ⟨_, rfl, .inl ⟨rfl, _, SqL.of r1⟩, _, rfl, q, _, rfl, .inl (SqL.of hl), fl, _, _, rfl, rfl, r1, (by rw [List.length_map]; exact r3), ?_⟩
        refine ⟨_, rfl, .inl ⟨rfl, _, SqL.of upd_same⟩, _, rfl, fl, q, _, _, rfl, rfl, upd_same, (by rw [upd_ne r2]; exact hl), ?_, ?_⟩
        · rw [List.length_append, List.length_map, List.length_map]
          exact r4
        · refine ⟨_, _, _, o', F ++ (((ans.num :: ans.nums).length : Nat) : Int) :: (ans.num :: ans.nums), rfl, ?_⟩
          rw [upd_upd, List.length_map]
          rw [List.map_append] at r5
          rw [List.append_assoc]
          exact r5
    · refine if_false_of (decide_eq_false (by omega)) ?_
      have e : ns.drop pl = [] := List.drop_eq_nil_of_le (by omega)
      rw [e] at hcs
      have ecs : cs = [] := by
        cases f <;> cases hcs <;> rfl
      subst ecs
      refine ⟨_, rfl, k H2 fl ?_⟩
      rw [ht]
      show H2 fl = some (.lst ((F ++ []).map V.int))
      rw [List.append_nil]
      exact t4
end
end Ld
/-! What the top has written. -/
namespace Ld
open PySem PySem.Spec PyProof.Rows L2
theorem all_mk {P : Program} {w : World} {K : PySem.W.Frag} {h : Heap} {mg : Str → Option Value} {fa : Addr} (X : K.In h) (G : h.Ns mainGlobals mg) (hfa : mg "answers" = some (.ref fa))
    {CD CR CG CY CK fR cnt : Addr}
    {nm q : Str} {N : Addr} {bs : List Value} {sn : List Str} {sub : List Value} {ab : Bool} {col : Option Bool} {dd : Option Addr} {m0 m1 m2 m3 m5 : Option Value}
    {odR anR : Option Addr} {slR : Array (Option Value)} {ocR dcR pmR cdR ctR : Value}
    {f0 : Addr} {od0 an0 : Option Addr} {sl0 : Array (Option Value)} {oc0 kV0 dc0 pm0 cd0 ct0 : Value}
    {f1 : Addr} {od1 an1 : Option Addr} {sl1 : Array (Option Value)} {oc1 kV1 dc1 pm1 cd1 ct1 : Value}
    {f2 : Addr} {od2 an2 : Option Addr} {sl2 : Array (Option Value)} {oc2 kV2 dc2 pm2 cd2 ct2 : Value}
    {f3 : Addr} {od3 an3 : Option Addr} {sl3 : Array (Option Value)} {oc3 kV3 dc3 pm3 cd3 ct3 : Value}
    {f4 : Addr} {od4 an4 : Option Addr} {sl4 : Array (Option Value)} {oc4 kV4 dc4 pm4 cd4 ct4 : Value}
    {f5 : Addr} {od5 an5 : Option Addr} {sl5 : Array (Option Value)} {oc5 kV5 dc5 pm5 cd5 ct5 : Value}
    {f6 : Addr} {od6 an6 : Option Addr} {sl6 : Array (Option Value)} {oc6 kV6 dc6 pm6 cd6 ct6 : Value}
    {f7 : Addr} {od7 an7 : Option Addr} {sl7 : Array (Option Value)} {oc7 kV7 dc7 pm7 cd7 ct7 : Value}
    {f8 : Addr} {od8 an8 : Option Addr} {sl8 : Array (Option Value)} {oc8 kV8 dc8 pm8 cd8 ct8 : Value}
    {f9 : Addr} {od9 an9 : Option Addr} {sl9 : Array (Option Value)} {oc9 kV9 dc9 pm9 cd9 ct9 : Value}
    {f10 : Addr} {od10 an10 : Option Addr} {sl10 : Array (Option Value)} {oc10 kV10 dc10 pm10 cd10 ct10 : Value}
    {f11 : Addr} {od11 an11 : Option Addr} {sl11 : Array (Option Value)} {oc11 kV11 dc11 pm11 cd11 ct11 : Value}
    {f12 : Addr} {od12 an12 : Option Addr} {sl12 : Array (Option Value)} {oc12 kV12 dc12 pm12 cd12 ct12 : Value}
    {f13 : Addr} {od13 an13 : Option Addr} {sl13 : Array (Option Value)} {oc13 kV13 dc13 pm13 cd13 ct13 : Value}
    {f14 : Addr} {od14 an14 : Option Addr} {sl14 : Array (Option Value)} {oc14 kV14 dc14 pm14 cd14 ct14 : Value}
    {f15 : Addr} {od15 an15 : Option Addr} {sl15 : Array (Option Value)} {oc15 kV15 dc15 pm15 cd15 ct15 : Value}
    {f16 : Addr} {od16 an16 : Option Addr} {sl16 : Array (Option Value)} {oc16 kV16 dc16 pm16 cd16 ct16 : Value}
    {f17 : Addr} {od17 an17 : Option Addr} {sl17 : Array (Option Value)} {oc17 kV17 dc17 pm17 cd17 ct17 : Value}
    {f18 : Addr} {od18 an18 : Option Addr} {sl18 : Array (Option Value)} {oc18 kV18 dc18 pm18 cd18 ct18 : Value}
    {f19 : Addr} {od19 an19 : Option Addr} {sl19 : Array (Option Value)} {oc19 kV19 dc19 pm19 cd19 ct19 : Value}
    {f20 : Addr} {od20 an20 : Option Addr} {sl20 : Array (Option Value)} {oc20 kV20 dc20 pm20 cd20 ct20 : Value}
    {f21 : Addr} {od21 an21 : Option Addr} {sl21 : Array (Option Value)} {oc21 kV21 dc21 pm21 cd21 ct21 : Value}
    {f22 : Addr} {od22 an22 : Option Addr} {sl22 : Array (Option Value)} {oc22 kV22 dc22 pm22 cd22 ct22 : Value}
    {f23 : Addr} {od23 an23 : Option Addr} {sl23 : Array (Option Value)} {oc23 kV23 dc23 pm23 cd23 ct23 : Value}
    {f24 : Addr} {od24 an24 : Option Addr} {sl24 : Array (Option Value)} {oc24 kV24 dc24 pm24 cd24 ct24 : Value}
    {f25 : Addr} {od25 an25 : Option Addr} {sl25 : Array (Option Value)} {oc25 kV25 dc25 pm25 cd25 ct25 : Value}
    {f26 : Addr} {od26 an26 : Option Addr} {sl26 : Array (Option Value)} {oc26 kV26 dc26 pm26 cd26 ct26 : Value}
    {f27 : Addr} {od27 an27 : Option Addr} {sl27 : Array (Option Value)} {oc27 kV27 dc27 pm27 cd27 ct27 : Value}
    {f28 : Addr} {od28 an28 : Option Addr} {sl28 : Array (Option Value)} {oc28 kV28 dc28 pm28 cd28 ct28 : Value}
    {f29 : Addr} {od29 an29 : Option Addr} {sl29 : Array (Option Value)} {oc29 kV29 dc29 pm29 cd29 ct29 : Value}
    {f30 : Addr} {od30 an30 : Option Addr} {sl30 : Array (Option Value)} {oc30 kV30 dc30 pm30 cd30 ct30 : Value}
    {f31 : Addr} {od31 an31 : Option Addr} {sl31 : Array (Option Value)} {oc31 kV31 dc31 pm31 cd31 ct31 : Value}
    {f32 : Addr} {od32 an32 : Option Addr} {sl32 : Array (Option Value)} {oc32 kV32 dc32 pm32 cd32 ct32 : Value}
    {f33 : Addr} {od33 an33 : Option Addr} {sl33 : Array (Option Value)} {oc33 kV33 dc33 pm33 cd33 ct33 : Value}
    {f34 : Addr} {od34 an34 : Option Addr} {sl34 : Array (Option Value)} {oc34 kV34 dc34 pm34 cd34 ct34 : Value}
    {f35 : Addr} {od35 an35 : Option Addr} {sl35 : Array (Option Value)} {oc35 kV35 dc35 pm35 cd35 ct35 : Value}
    {f36 : Addr} {od36 an36 : Option Addr} {sl36 : Array (Option Value)} {oc36 kV36 dc36 pm36 cd36 ct36 : Value}
    {f37 : Addr} {od37 an37 : Option Addr} {sl37 : Array (Option Value)} {oc37 kV37 dc37 pm37 cd37 ct37 : Value}
    {f38 : Addr} {od38 an38 : Option Addr} {sl38 : Array (Option Value)} {oc38 kV38 dc38 pm38 cd38 ct38 : Value}
    {f39 : Addr} {od39 an39 : Option Addr} {sl39 : Array (Option Value)} {oc39 kV39 dc39 pm39 cd39 ct39 : Value}
    {f40 : Addr} {od40 an40 : Option Addr} {sl40 : Array (Option Value)} {oc40 kV40 dc40 pm40 cd40 ct40 : Value}
    {f41 : Addr} {od41 an41 : Option Addr} {sl41 : Array (Option Value)} {oc41 kV41 dc41 pm41 cd41 ct41 : Value}
    {f42 : Addr} {od42 an42 : Option Addr} {sl42 : Array (Option Value)} {oc42 kV42 dc42 pm42 cd42 ct42 : Value}
    {f43 : Addr} {od43 an43 : Option Addr} {sl43 : Array (Option Value)} {oc43 kV43 dc43 pm43 cd43 ct43 : Value}
    {f44 : Addr} {od44 an44 : Option Addr} {sl44 : Array (Option Value)} {oc44 kV44 dc44 pm44 cd44 ct44 : Value}
    {f45 : Addr} {od45 an45 : Option Addr} {sl45 : Array (Option Value)} {oc45 kV45 dc45 pm45 cd45 ct45 : Value}
    {f46 : Addr} {od46 an46 : Option Addr} {sl46 : Array (Option Value)} {oc46 kV46 dc46 pm46 cd46 ct46 : Value}
    {t_MILLIMETRES : Tok}
    {t_MOST_THICK : Tok}
    {t_NOT_BEGUN : Tok}
    {t_NOT_THERE : Tok}
    {t_NOT_LENT : Tok}
    {t_IS_LENT : Tok}
    {t_WRONG : Tok}
    {t_TOO_MANY : Tok}
    {t_NONE_SUCH : Tok}
    {t_MOST_DRUMS : Tok}
    {t_MOST_GUESTS : Tok}
    {t_MOST_FREE_DAYS : Tok}
    {t_LARGEST : Tok}
    {t_MOST_DAILY : Tok}
    {t_MOST_PLEDGE : Tok}
    {t_LONGEST : Tok}
    {t_MOST_DAYS : Tok}
    {t_LAST_DAY : Tok}
    {its : Array Value} {nC : Nat} {ddC : Option Addr} {slC : Array (Option Value)}
    (aR : PySem.W.nsIn K mainGlobals "Refusal" = some (some (.ref CR)))
    (xR : K.lookup CR = some (excClassObj nm q CR N bs PySem.ESX.exTail true sn sub ab col dd m0 m1 m2 m3 m5 "Exception.__new__"))
    (saR : PySem.W.findIn K (.ref CR) "__setattr__" = some (some (.builtin "object.__setattr__")))
    (gaR : PySem.W.findIn K (.ref CR) "__getattribute__" = some (some (.builtin "BaseException.__getattribute__")))
    (ggR : PySem.W.findIn K (.ref CR) "__getattr__" = some none)
    (nbR : PySem.W.findIn K (.ref CR) "code" = some none)
    (iR : PySem.W.findIn K (.ref CR) "__init__" = some (some (.ref fR)))
    (tiR : PySem.W.typeIn K (.ref fR) = some (.type "function"))
    (lR : K.lookup fR = some ⟨ocR, odR, .func (PySem.W.fnOf "__init__" "Refusal.__init__" (PySem.LowX.iA ⟨89, 17, 89, 21⟩ ⟨89, 23, 89, 27⟩) (PySem.LowX.iB ⟨90, 8, 90, 12⟩ ⟨90, 8, 90, 17⟩ ⟨90, 20, 90, 24⟩ ⟨90, 8, 90, 24⟩) PySem.LowX.iS .none .none dcR pmR anR cdR ctR), slR⟩)
    (cdeR : PySem.W.codeIn K cdR "Refusal.__init__" = true)
    (kR : PySem.W.keepIn K (.ref CR) = true)
    (eR : PySem.W.subIn K (.ref CR) (.type "BaseException") = some true)
    (tR : PySem.W.typeIn K (.ref CR) = some (.type "type"))
    (hdR : PySem.W.hasDictIn K CR = true)
    (icR : PySem.W.isClsIn K CR = true)
    (sR : PySem.W.subIn K (.ref CR) (.ref CR) = some true)
    (aCD : PySem.W.nsIn K mainGlobals "Drum" = some (some (.ref CD)))
    (pgCD : PySem.W.plainGet K CD Str.empty = true)
    (hdCD : PySem.W.hasDictIn K CD = true)
    (poCD : PySem.W.plainOver K CD = true)
    (saCD : PySem.W.findIn K (.ref CD) "__setattr__" = some (some (.builtin "object.__setattr__")))
    (mkCD : PySem.W.makesIn K CD = true)
    (kcCD : PySem.W.keepIn K (.ref CD) = true)
    (n_Drum_core : PySem.W.findIn K (.ref CD) "core" = some none)
    (n_Drum_flange : PySem.W.findIn K (.ref CD) "flange" = some none)
    (n_Drum_wide : PySem.W.findIn K (.ref CD) "wide" = some none)
    (n_Drum_daily : PySem.W.findIn K (.ref CD) "daily" = some none)
    (n_Drum_pledge : PySem.W.findIn K (.ref CD) "pledge" = some none)
    (n_Drum_guest : PySem.W.findIn K (.ref CD) "guest" = some none)
    (n_Drum_since : PySem.W.findIn K (.ref CD) "since" = some none)
    (n_Drum_till : PySem.W.findIn K (.ref CD) "till" = some none)
    (aCG : PySem.W.nsIn K mainGlobals "Guest" = some (some (.ref CG)))
    (pgCG : PySem.W.plainGet K CG Str.empty = true)
    (hdCG : PySem.W.hasDictIn K CG = true)
    (poCG : PySem.W.plainOver K CG = true)
    (saCG : PySem.W.findIn K (.ref CG) "__setattr__" = some (some (.builtin "object.__setattr__")))
    (mkCG : PySem.W.makesIn K CG = true)
    (kcCG : PySem.W.keepIn K (.ref CG) = true)
    (n_Guest_owed : PySem.W.findIn K (.ref CG) "owed" = some none)
    (n_Guest_paid : PySem.W.findIn K (.ref CG) "paid" = some none)
    (aCY : PySem.W.nsIn K mainGlobals "Yard" = some (some (.ref CY)))
    (pgCY : PySem.W.plainGet K CY Str.empty = true)
    (hdCY : PySem.W.hasDictIn K CY = true)
    (poCY : PySem.W.plainOver K CY = true)
    (saCY : PySem.W.findIn K (.ref CY) "__setattr__" = some (some (.builtin "object.__setattr__")))
    (mkCY : PySem.W.makesIn K CY = true)
    (kcCY : PySem.W.keepIn K (.ref CY) = true)
    (n_Yard_free_days : PySem.W.findIn K (.ref CY) "free_days" = some none)
    (n_Yard_drums : PySem.W.findIn K (.ref CY) "drums" = some none)
    (n_Yard_guests : PySem.W.findIn K (.ref CY) "guests" = some none)
    (n_Yard_today : PySem.W.findIn K (.ref CY) "today" = some none)
    (n_Yard_kept : PySem.W.findIn K (.ref CY) "kept" = some none)
    (aCK : PySem.W.nsIn K mainGlobals "Desk" = some (some (.ref CK)))
    (pgCK : PySem.W.plainGet K CK Str.empty = true)
    (hdCK : PySem.W.hasDictIn K CK = true)
    (poCK : PySem.W.plainOver K CK = true)
    (saCK : PySem.W.findIn K (.ref CK) "__setattr__" = some (some (.builtin "object.__setattr__")))
    (mkCK : PySem.W.makesIn K CK = true)
    (kcCK : PySem.W.keepIn K (.ref CK) = true)
    (n_Desk_yard : PySem.W.findIn K (.ref CK) "yard" = some none)
    (a0 : PySem.W.findIn K (.ref CD) "__init__" = some (some (.ref f0)))
    (i0 : PySem.W.isFn K (.ref f0) = true)
    (l0 : K.lookup f0 = some ⟨oc0, od0, .func (PySem.W.fnOf "__init__" "Drum.__init__" (defArgs s_Drum_init) (defBody s_Drum_init) (defScope s_Drum_init) .none kV0 dc0 pm0 an0 cd0 ct0), sl0⟩)
    (c0 : PySem.W.codeIn K cd0 "Drum.__init__" = true)
    (k0 : PySem.W.keepIn K (.ref f0) = true)
    (a1 : PySem.W.findIn K (.ref CD) "layers" = some (some (.ref f1)))
    (i1 : PySem.W.isFn K (.ref f1) = true)
    (l1 : K.lookup f1 = some ⟨oc1, od1, .func (PySem.W.fnOf "layers" "Drum.layers" (defArgs s_Drum_layers) (defBody s_Drum_layers) (defScope s_Drum_layers) .none kV1 dc1 pm1 an1 cd1 ct1), sl1⟩)
    (c1 : PySem.W.codeIn K cd1 "Drum.layers" = true)
    (k1 : PySem.W.keepIn K (.ref f1) = true)
    (a2 : PySem.W.findIn K (.ref CD) "turns" = some (some (.ref f2)))
    (i2 : PySem.W.isFn K (.ref f2) = true)
    (l2 : K.lookup f2 = some ⟨oc2, od2, .func (PySem.W.fnOf "turns" "Drum.turns" (defArgs s_Drum_turns) (defBody s_Drum_turns) (defScope s_Drum_turns) .none kV2 dc2 pm2 an2 cd2 ct2), sl2⟩)
    (c2 : PySem.W.codeIn K cd2 "Drum.turns" = true)
    (k2 : PySem.W.keepIn K (.ref f2) = true)
    (a3 : PySem.W.findIn K (.ref CD) "metres" = some (some (.ref f3)))
    (i3 : PySem.W.isFn K (.ref f3) = true)
    (l3 : K.lookup f3 = some ⟨oc3, od3, .func (PySem.W.fnOf "metres" "Drum.metres" (defArgs s_Drum_metres) (defBody s_Drum_metres) (defScope s_Drum_metres) .none kV3 dc3 pm3 an3 cd3 ct3), sl3⟩)
    (c3 : PySem.W.codeIn K cd3 "Drum.metres" = true)
    (k3 : PySem.W.keepIn K (.ref f3) = true)
    (a4 : PySem.W.findIn K (.ref CD) "thickest" = some (some (.ref f4)))
    (i4 : PySem.W.isFn K (.ref f4) = true)
    (l4 : K.lookup f4 = some ⟨oc4, od4, .func (PySem.W.fnOf "thickest" "Drum.thickest" (defArgs s_Drum_thickest) (defBody s_Drum_thickest) (defScope s_Drum_thickest) .none kV4 dc4 pm4 an4 cd4 ct4), sl4⟩)
    (c4 : PySem.W.codeIn K cd4 "Drum.thickest" = true)
    (k4 : PySem.W.keepIn K (.ref f4) = true)
    (a5 : PySem.W.findIn K (.ref CD) "charged" = some (some (.ref f5)))
    (i5 : PySem.W.isFn K (.ref f5) = true)
    (l5 : K.lookup f5 = some ⟨oc5, od5, .func (PySem.W.fnOf "charged" "Drum.charged" (defArgs s_Drum_charged) (defBody s_Drum_charged) (defScope s_Drum_charged) .none kV5 dc5 pm5 an5 cd5 ct5), sl5⟩)
    (c5 : PySem.W.codeIn K cd5 "Drum.charged" = true)
    (k5 : PySem.W.keepIn K (.ref f5) = true)
    (a6 : PySem.W.nsIn K mainGlobals "longer_plans" = some (some (.ref f6)))
    (l6 : K.lookup f6 = some ⟨oc6, od6, .func (PySem.W.fnOf "longer_plans" "longer_plans" (defArgs s_longer_plans) (defBody s_longer_plans) (defScope s_longer_plans) .none kV6 dc6 pm6 an6 cd6 ct6), sl6⟩)
    (c6 : PySem.W.codeIn K cd6 "longer_plans" = true)
    (k6 : PySem.W.keepIn K (.ref f6) = true)
    (a7 : PySem.W.nsIn K mainGlobals "fits" = some (some (.ref f7)))
    (l7 : K.lookup f7 = some ⟨oc7, od7, .func (PySem.W.fnOf "fits" "fits" (defArgs s_fits) (defBody s_fits) (defScope s_fits) .none kV7 dc7 pm7 an7 cd7 ct7), sl7⟩)
    (c7 : PySem.W.codeIn K cd7 "fits" = true)
    (k7 : PySem.W.keepIn K (.ref f7) = true)
    (a8 : PySem.W.nsIn K mainGlobals "best_plan" = some (some (.ref f8)))
    (l8 : K.lookup f8 = some ⟨oc8, od8, .func (PySem.W.fnOf "best_plan" "best_plan" (defArgs s_best_plan) (defBody s_best_plan) (defScope s_best_plan) .none kV8 dc8 pm8 an8 cd8 ct8), sl8⟩)
    (c8 : PySem.W.codeIn K cd8 "best_plan" = true)
    (k8 : PySem.W.keepIn K (.ref f8) = true)
    (a9 : PySem.W.nsIn K mainGlobals "taken" = some (some (.ref f9)))
    (l9 : K.lookup f9 = some ⟨oc9, od9, .func (PySem.W.fnOf "taken" "taken" (defArgs s_taken) (defBody s_taken) (defScope s_taken) .none kV9 dc9 pm9 an9 cd9 ct9), sl9⟩)
    (c9 : PySem.W.codeIn K cd9 "taken" = true)
    (k9 : PySem.W.keepIn K (.ref f9) = true)
    (a10 : PySem.W.nsIn K mainGlobals "drum_count" = some (some (.ref f10)))
    (l10 : K.lookup f10 = some ⟨oc10, od10, .func (PySem.W.fnOf "drum_count" "drum_count" (defArgs s_drum_count) (defBody s_drum_count) (defScope s_drum_count) .none kV10 dc10 pm10 an10 cd10 ct10), sl10⟩)
    (c10 : PySem.W.codeIn K cd10 "drum_count" = true)
    (k10 : PySem.W.keepIn K (.ref f10) = true)
    (a11 : PySem.W.nsIn K mainGlobals "daily_cost" = some (some (.ref f11)))
    (l11 : K.lookup f11 = some ⟨oc11, od11, .func (PySem.W.fnOf "daily_cost" "daily_cost" (defArgs s_daily_cost) (defBody s_daily_cost) (defScope s_daily_cost) .none kV11 dc11 pm11 an11 cd11 ct11), sl11⟩)
    (c11 : PySem.W.codeIn K cd11 "daily_cost" = true)
    (k11 : PySem.W.keepIn K (.ref f11) = true)
    (a12 : PySem.W.nsIn K mainGlobals "need" = some (some (.ref f12)))
    (l12 : K.lookup f12 = some ⟨oc12, od12, .func (PySem.W.fnOf "need" "need" (defArgs s_need) (defBody s_need) (defScope s_need) .none kV12 dc12 pm12 an12 cd12 ct12), sl12⟩)
    (c12 : PySem.W.codeIn K cd12 "need" = true)
    (k12 : PySem.W.keepIn K (.ref f12) = true)
    (a13 : PySem.W.nsIn K mainGlobals "told_list" = some (some (.ref f13)))
    (l13 : K.lookup f13 = some ⟨oc13, od13, .func (PySem.W.fnOf "told_list" "told_list" (defArgs s_told_list) (defBody s_told_list) (defScope s_told_list) .none kV13 dc13 pm13 an13 cd13 ct13), sl13⟩)
    (c13 : PySem.W.codeIn K cd13 "told_list" = true)
    (k13 : PySem.W.keepIn K (.ref f13) = true)
    (a14 : PySem.W.findIn K (.ref CG) "__init__" = some (some (.ref f14)))
    (i14 : PySem.W.isFn K (.ref f14) = true)
    (l14 : K.lookup f14 = some ⟨oc14, od14, .func (PySem.W.fnOf "__init__" "Guest.__init__" (defArgs s_Guest_init) (defBody s_Guest_init) (defScope s_Guest_init) .none kV14 dc14 pm14 an14 cd14 ct14), sl14⟩)
    (c14 : PySem.W.codeIn K cd14 "Guest.__init__" = true)
    (k14 : PySem.W.keepIn K (.ref f14) = true)
    (a15 : PySem.W.findIn K (.ref CY) "__init__" = some (some (.ref f15)))
    (i15 : PySem.W.isFn K (.ref f15) = true)
    (l15 : K.lookup f15 = some ⟨oc15, od15, .func (PySem.W.fnOf "__init__" "Yard.__init__" (defArgs s_Yard_init) (defBody s_Yard_init) (defScope s_Yard_init) .none kV15 dc15 pm15 an15 cd15 ct15), sl15⟩)
    (c15 : PySem.W.codeIn K cd15 "Yard.__init__" = true)
    (k15 : PySem.W.keepIn K (.ref f15) = true)
    (a16 : PySem.W.findIn K (.ref CY) "drum_at" = some (some (.ref f16)))
    (i16 : PySem.W.isFn K (.ref f16) = true)
    (l16 : K.lookup f16 = some ⟨oc16, od16, .func (PySem.W.fnOf "drum_at" "Yard.drum_at" (defArgs s_Yard_drum_at) (defBody s_Yard_drum_at) (defScope s_Yard_drum_at) .none kV16 dc16 pm16 an16 cd16 ct16), sl16⟩)
    (c16 : PySem.W.codeIn K cd16 "Yard.drum_at" = true)
    (k16 : PySem.W.keepIn K (.ref f16) = true)
    (a17 : PySem.W.findIn K (.ref CY) "lent_drum" = some (some (.ref f17)))
    (i17 : PySem.W.isFn K (.ref f17) = true)
    (l17 : K.lookup f17 = some ⟨oc17, od17, .func (PySem.W.fnOf "lent_drum" "Yard.lent_drum" (defArgs s_Yard_lent_drum) (defBody s_Yard_lent_drum) (defScope s_Yard_lent_drum) .none kV17 dc17 pm17 an17 cd17 ct17), sl17⟩)
    (c17 : PySem.W.codeIn K cd17 "Yard.lent_drum" = true)
    (k17 : PySem.W.keepIn K (.ref f17) = true)
    (a18 : PySem.W.findIn K (.ref CY) "guest_at" = some (some (.ref f18)))
    (i18 : PySem.W.isFn K (.ref f18) = true)
    (l18 : K.lookup f18 = some ⟨oc18, od18, .func (PySem.W.fnOf "guest_at" "Yard.guest_at" (defArgs s_Yard_guest_at) (defBody s_Yard_guest_at) (defScope s_Yard_guest_at) .none kV18 dc18 pm18 an18 cd18 ct18), sl18⟩)
    (c18 : PySem.W.codeIn K cd18 "Yard.guest_at" = true)
    (k18 : PySem.W.keepIn K (.ref f18) = true)
    (a19 : PySem.W.findIn K (.ref CY) "add_drum" = some (some (.ref f19)))
    (i19 : PySem.W.isFn K (.ref f19) = true)
    (l19 : K.lookup f19 = some ⟨oc19, od19, .func (PySem.W.fnOf "add_drum" "Yard.add_drum" (defArgs s_Yard_add_drum) (defBody s_Yard_add_drum) (defScope s_Yard_add_drum) .none kV19 dc19 pm19 an19 cd19 ct19), sl19⟩)
    (c19 : PySem.W.codeIn K cd19 "Yard.add_drum" = true)
    (k19 : PySem.W.keepIn K (.ref f19) = true)
    (a20 : PySem.W.findIn K (.ref CY) "add_guest" = some (some (.ref f20)))
    (i20 : PySem.W.isFn K (.ref f20) = true)
    (l20 : K.lookup f20 = some ⟨oc20, od20, .func (PySem.W.fnOf "add_guest" "Yard.add_guest" (defArgs s_Yard_add_guest) (defBody s_Yard_add_guest) (defScope s_Yard_add_guest) .none kV20 dc20 pm20 an20 cd20 ct20), sl20⟩)
    (c20 : PySem.W.codeIn K cd20 "Yard.add_guest" = true)
    (k20 : PySem.W.keepIn K (.ref f20) = true)
    (a21 : PySem.W.findIn K (.ref CY) "need_thick" = some (some (.ref f21)))
    (i21 : PySem.W.isFn K (.ref f21) = true)
    (l21 : K.lookup f21 = some ⟨oc21, od21, .func (PySem.W.fnOf "need_thick" "Yard.need_thick" (defArgs s_Yard_need_thick) (defBody s_Yard_need_thick) (defScope s_Yard_need_thick) .none kV21 dc21 pm21 an21 cd21 ct21), sl21⟩)
    (c21 : PySem.W.codeIn K cd21 "Yard.need_thick" = true)
    (k21 : PySem.W.keepIn K (.ref f21) = true)
    (a22 : PySem.W.findIn K (.ref CY) "told_room" = some (some (.ref f22)))
    (i22 : PySem.W.isFn K (.ref f22) = true)
    (l22 : K.lookup f22 = some ⟨oc22, od22, .func (PySem.W.fnOf "told_room" "Yard.told_room" (defArgs s_Yard_told_room) (defBody s_Yard_told_room) (defScope s_Yard_told_room) .none kV22 dc22 pm22 an22 cd22 ct22), sl22⟩)
    (c22 : PySem.W.codeIn K cd22 "Yard.told_room" = true)
    (k22 : PySem.W.keepIn K (.ref f22) = true)
    (a23 : PySem.W.findIn K (.ref CY) "thickest" = some (some (.ref f23)))
    (i23 : PySem.W.isFn K (.ref f23) = true)
    (l23 : K.lookup f23 = some ⟨oc23, od23, .func (PySem.W.fnOf "thickest" "Yard.thickest" (defArgs s_Yard_thickest) (defBody s_Yard_thickest) (defScope s_Yard_thickest) .none kV23 dc23 pm23 an23 cd23 ct23), sl23⟩)
    (c23 : PySem.W.codeIn K cd23 "Yard.thickest" = true)
    (k23 : PySem.W.keepIn K (.ref f23) = true)
    (a24 : PySem.W.findIn K (.ref CY) "free_drums" = some (some (.ref f24)))
    (i24 : PySem.W.isFn K (.ref f24) = true)
    (l24 : K.lookup f24 = some ⟨oc24, od24, .func (PySem.W.fnOf "free_drums" "Yard.free_drums" (defArgs s_Yard_free_drums) (defBody s_Yard_free_drums) (defScope s_Yard_free_drums) .none kV24 dc24 pm24 an24 cd24 ct24), sl24⟩)
    (c24 : PySem.W.codeIn K cd24 "Yard.free_drums" = true)
    (k24 : PySem.W.keepIn K (.ref f24) = true)
    (a25 : PySem.W.findIn K (.ref CY) "fit" = some (some (.ref f25)))
    (i25 : PySem.W.isFn K (.ref f25) = true)
    (l25 : K.lookup f25 = some ⟨oc25, od25, .func (PySem.W.fnOf "fit" "Yard.fit" (defArgs s_Yard_fit) (defBody s_Yard_fit) (defScope s_Yard_fit) .none kV25 dc25 pm25 an25 cd25 ct25), sl25⟩)
    (c25 : PySem.W.codeIn K cd25 "Yard.fit" = true)
    (k25 : PySem.W.keepIn K (.ref f25) = true)
    (a26 : PySem.W.findIn K (.ref CY) "plan" = some (some (.ref f26)))
    (i26 : PySem.W.isFn K (.ref f26) = true)
    (l26 : K.lookup f26 = some ⟨oc26, od26, .func (PySem.W.fnOf "plan" "Yard.plan" (defArgs s_Yard_plan) (defBody s_Yard_plan) (defScope s_Yard_plan) .none kV26 dc26 pm26 an26 cd26 ct26), sl26⟩)
    (c26 : PySem.W.codeIn K cd26 "Yard.plan" = true)
    (k26 : PySem.W.keepIn K (.ref f26) = true)
    (a27 : PySem.W.findIn K (.ref CY) "told_costs" = some (some (.ref f27)))
    (i27 : PySem.W.isFn K (.ref f27) = true)
    (l27 : K.lookup f27 = some ⟨oc27, od27, .func (PySem.W.fnOf "told_costs" "Yard.told_costs" (defArgs s_Yard_told_costs) (defBody s_Yard_told_costs) (defScope s_Yard_told_costs) .none kV27 dc27 pm27 an27 cd27 ct27), sl27⟩)
    (c27 : PySem.W.codeIn K cd27 "Yard.told_costs" = true)
    (k27 : PySem.W.keepIn K (.ref f27) = true)
    (a28 : PySem.W.findIn K (.ref CY) "lend" = some (some (.ref f28)))
    (i28 : PySem.W.isFn K (.ref f28) = true)
    (l28 : K.lookup f28 = some ⟨oc28, od28, .func (PySem.W.fnOf "lend" "Yard.lend" (defArgs s_Yard_lend) (defBody s_Yard_lend) (defScope s_Yard_lend) .none kV28 dc28 pm28 an28 cd28 ct28), sl28⟩)
    (c28 : PySem.W.codeIn K cd28 "Yard.lend" = true)
    (k28 : PySem.W.keepIn K (.ref f28) = true)
    (a29 : PySem.W.findIn K (.ref CY) "charge" = some (some (.ref f29)))
    (i29 : PySem.W.isFn K (.ref f29) = true)
    (l29 : K.lookup f29 = some ⟨oc29, od29, .func (PySem.W.fnOf "charge" "Yard.charge" (defArgs s_Yard_charge) (defBody s_Yard_charge) (defScope s_Yard_charge) .none kV29 dc29 pm29 an29 cd29 ct29), sl29⟩)
    (c29 : PySem.W.codeIn K cd29 "Yard.charge" = true)
    (k29 : PySem.W.keepIn K (.ref f29) = true)
    (a30 : PySem.W.findIn K (.ref CY) "bring" = some (some (.ref f30)))
    (i30 : PySem.W.isFn K (.ref f30) = true)
    (l30 : K.lookup f30 = some ⟨oc30, od30, .func (PySem.W.fnOf "bring" "Yard.bring" (defArgs s_Yard_bring) (defBody s_Yard_bring) (defScope s_Yard_bring) .none kV30 dc30 pm30 an30 cd30 ct30), sl30⟩)
    (c30 : PySem.W.codeIn K cd30 "Yard.bring" = true)
    (k30 : PySem.W.keepIn K (.ref f30) = true)
    (a31 : PySem.W.findIn K (.ref CY) "lose" = some (some (.ref f31)))
    (i31 : PySem.W.isFn K (.ref f31) = true)
    (l31 : K.lookup f31 = some ⟨oc31, od31, .func (PySem.W.fnOf "lose" "Yard.lose" (defArgs s_Yard_lose) (defBody s_Yard_lose) (defScope s_Yard_lose) .none kV31 dc31 pm31 an31 cd31 ct31), sl31⟩)
    (c31 : PySem.W.codeIn K cd31 "Yard.lose" = true)
    (k31 : PySem.W.keepIn K (.ref f31) = true)
    (a32 : PySem.W.findIn K (.ref CY) "pay" = some (some (.ref f32)))
    (i32 : PySem.W.isFn K (.ref f32) = true)
    (l32 : K.lookup f32 = some ⟨oc32, od32, .func (PySem.W.fnOf "pay" "Yard.pay" (defArgs s_Yard_pay) (defBody s_Yard_pay) (defScope s_Yard_pay) .none kV32 dc32 pm32 an32 cd32 ct32), sl32⟩)
    (c32 : PySem.W.codeIn K cd32 "Yard.pay" = true)
    (k32 : PySem.W.keepIn K (.ref f32) = true)
    (a33 : PySem.W.findIn K (.ref CY) "pass_days" = some (some (.ref f33)))
    (i33 : PySem.W.isFn K (.ref f33) = true)
    (l33 : K.lookup f33 = some ⟨oc33, od33, .func (PySem.W.fnOf "pass_days" "Yard.pass_days" (defArgs s_Yard_pass_days) (defBody s_Yard_pass_days) (defScope s_Yard_pass_days) .none kV33 dc33 pm33 an33 cd33 ct33), sl33⟩)
    (c33 : PySem.W.codeIn K cd33 "Yard.pass_days" = true)
    (k33 : PySem.W.keepIn K (.ref f33) = true)
    (a34 : PySem.W.findIn K (.ref CY) "lent_to" = some (some (.ref f34)))
    (i34 : PySem.W.isFn K (.ref f34) = true)
    (l34 : K.lookup f34 = some ⟨oc34, od34, .func (PySem.W.fnOf "lent_to" "Yard.lent_to" (defArgs s_Yard_lent_to) (defBody s_Yard_lent_to) (defScope s_Yard_lent_to) .none kV34 dc34 pm34 an34 cd34 ct34), sl34⟩)
    (c34 : PySem.W.codeIn K cd34 "Yard.lent_to" = true)
    (k34 : PySem.W.keepIn K (.ref f34) = true)
    (a35 : PySem.W.findIn K (.ref CY) "late_drums" = some (some (.ref f35)))
    (i35 : PySem.W.isFn K (.ref f35) = true)
    (l35 : K.lookup f35 = some ⟨oc35, od35, .func (PySem.W.fnOf "late_drums" "Yard.late_drums" (defArgs s_Yard_late_drums) (defBody s_Yard_late_drums) (defScope s_Yard_late_drums) .none kV35 dc35 pm35 an35 cd35 ct35), sl35⟩)
    (c35 : PySem.W.codeIn K cd35 "Yard.late_drums" = true)
    (k35 : PySem.W.keepIn K (.ref f35) = true)
    (a36 : PySem.W.findIn K (.ref CY) "told_owed" = some (some (.ref f36)))
    (i36 : PySem.W.isFn K (.ref f36) = true)
    (l36 : K.lookup f36 = some ⟨oc36, od36, .func (PySem.W.fnOf "told_owed" "Yard.told_owed" (defArgs s_Yard_told_owed) (defBody s_Yard_told_owed) (defScope s_Yard_told_owed) .none kV36 dc36 pm36 an36 cd36 ct36), sl36⟩)
    (c36 : PySem.W.codeIn K cd36 "Yard.told_owed" = true)
    (k36 : PySem.W.keepIn K (.ref f36) = true)
    (a37 : PySem.W.findIn K (.ref CY) "told_would" = some (some (.ref f37)))
    (i37 : PySem.W.isFn K (.ref f37) = true)
    (l37 : K.lookup f37 = some ⟨oc37, od37, .func (PySem.W.fnOf "told_would" "Yard.told_would" (defArgs s_Yard_told_would) (defBody s_Yard_told_would) (defScope s_Yard_told_would) .none kV37 dc37 pm37 an37 cd37 ct37), sl37⟩)
    (c37 : PySem.W.codeIn K cd37 "Yard.told_would" = true)
    (k37 : PySem.W.keepIn K (.ref f37) = true)
    (a38 : PySem.W.findIn K (.ref CY) "told_lent" = some (some (.ref f38)))
    (i38 : PySem.W.isFn K (.ref f38) = true)
    (l38 : K.lookup f38 = some ⟨oc38, od38, .func (PySem.W.fnOf "told_lent" "Yard.told_lent" (defArgs s_Yard_told_lent) (defBody s_Yard_told_lent) (defScope s_Yard_told_lent) .none kV38 dc38 pm38 an38 cd38 ct38), sl38⟩)
    (c38 : PySem.W.codeIn K cd38 "Yard.told_lent" = true)
    (k38 : PySem.W.keepIn K (.ref f38) = true)
    (a39 : PySem.W.findIn K (.ref CY) "told_eaten" = some (some (.ref f39)))
    (i39 : PySem.W.isFn K (.ref f39) = true)
    (l39 : K.lookup f39 = some ⟨oc39, od39, .func (PySem.W.fnOf "told_eaten" "Yard.told_eaten" (defArgs s_Yard_told_eaten) (defBody s_Yard_told_eaten) (defScope s_Yard_told_eaten) .none kV39 dc39 pm39 an39 cd39 ct39), sl39⟩)
    (c39 : PySem.W.codeIn K cd39 "Yard.told_eaten" = true)
    (k39 : PySem.W.keepIn K (.ref f39) = true)
    (a40 : PySem.W.findIn K (.ref CY) "told_drum" = some (some (.ref f40)))
    (i40 : PySem.W.isFn K (.ref f40) = true)
    (l40 : K.lookup f40 = some ⟨oc40, od40, .func (PySem.W.fnOf "told_drum" "Yard.told_drum" (defArgs s_Yard_told_drum) (defBody s_Yard_told_drum) (defScope s_Yard_told_drum) .none kV40 dc40 pm40 an40 cd40 ct40), sl40⟩)
    (c40 : PySem.W.codeIn K cd40 "Yard.told_drum" = true)
    (k40 : PySem.W.keepIn K (.ref f40) = true)
    (a41 : PySem.W.findIn K (.ref CY) "told_sums" = some (some (.ref f41)))
    (i41 : PySem.W.isFn K (.ref f41) = true)
    (l41 : K.lookup f41 = some ⟨oc41, od41, .func (PySem.W.fnOf "told_sums" "Yard.told_sums" (defArgs s_Yard_told_sums) (defBody s_Yard_told_sums) (defScope s_Yard_told_sums) .none kV41 dc41 pm41 an41 cd41 ct41), sl41⟩)
    (c41 : PySem.W.codeIn K cd41 "Yard.told_sums" = true)
    (k41 : PySem.W.keepIn K (.ref f41) = true)
    (a42 : PySem.W.findIn K (.ref CY) "respond_drums" = some (some (.ref f42)))
    (i42 : PySem.W.isFn K (.ref f42) = true)
    (l42 : K.lookup f42 = some ⟨oc42, od42, .func (PySem.W.fnOf "respond_drums" "Yard.respond_drums" (defArgs s_Yard_respond_drums) (defBody s_Yard_respond_drums) (defScope s_Yard_respond_drums) .none kV42 dc42 pm42 an42 cd42 ct42), sl42⟩)
    (c42 : PySem.W.codeIn K cd42 "Yard.respond_drums" = true)
    (k42 : PySem.W.keepIn K (.ref f42) = true)
    (a43 : PySem.W.findIn K (.ref CY) "respond_guests" = some (some (.ref f43)))
    (i43 : PySem.W.isFn K (.ref f43) = true)
    (l43 : K.lookup f43 = some ⟨oc43, od43, .func (PySem.W.fnOf "respond_guests" "Yard.respond_guests" (defArgs s_Yard_respond_guests) (defBody s_Yard_respond_guests) (defScope s_Yard_respond_guests) .none kV43 dc43 pm43 an43 cd43 ct43), sl43⟩)
    (c43 : PySem.W.codeIn K cd43 "Yard.respond_guests" = true)
    (k43 : PySem.W.keepIn K (.ref f43) = true)
    (a44 : PySem.W.findIn K (.ref CK) "__init__" = some (some (.ref f44)))
    (i44 : PySem.W.isFn K (.ref f44) = true)
    (l44 : K.lookup f44 = some ⟨oc44, od44, .func (PySem.W.fnOf "__init__" "Desk.__init__" (defArgs s_Desk_init) (defBody s_Desk_init) (defScope s_Desk_init) .none kV44 dc44 pm44 an44 cd44 ct44), sl44⟩)
    (c44 : PySem.W.codeIn K cd44 "Desk.__init__" = true)
    (k44 : PySem.W.keepIn K (.ref f44) = true)
    (a45 : PySem.W.findIn K (.ref CK) "respond" = some (some (.ref f45)))
    (i45 : PySem.W.isFn K (.ref f45) = true)
    (l45 : K.lookup f45 = some ⟨oc45, od45, .func (PySem.W.fnOf "respond" "Desk.respond" (defArgs s_Desk_respond) (defBody s_Desk_respond) (defScope s_Desk_respond) .none kV45 dc45 pm45 an45 cd45 ct45), sl45⟩)
    (c45 : PySem.W.codeIn K cd45 "Desk.respond" = true)
    (k45 : PySem.W.keepIn K (.ref f45) = true)
    (a46 : PySem.W.nsIn K mainGlobals "answers" = some (some (.ref f46)))
    (l46 : K.lookup f46 = some ⟨oc46, od46, .func (PySem.W.fnOf "answers" "answers" (defArgs s_answers) (defBody s_answers) (defScope s_answers) .none kV46 dc46 pm46 an46 cd46 ct46), sl46⟩)
    (c46 : PySem.W.codeIn K cd46 "answers" = true)
    (k46 : PySem.W.keepIn K (.ref f46) = true)
    (q_MILLIMETRES : PySem.W.nsIn K mainGlobals "MILLIMETRES" = some (some (.int (1000) t_MILLIMETRES)))
    (q_MOST_THICK : PySem.W.nsIn K mainGlobals "MOST_THICK" = some (some (.int (200) t_MOST_THICK)))
    (q_NOT_BEGUN : PySem.W.nsIn K mainGlobals "NOT_BEGUN" = some (some (.int (-11) t_NOT_BEGUN)))
    (q_NOT_THERE : PySem.W.nsIn K mainGlobals "NOT_THERE" = some (some (.int (-2) t_NOT_THERE)))
    (q_NOT_LENT : PySem.W.nsIn K mainGlobals "NOT_LENT" = some (some (.int (-6) t_NOT_LENT)))
    (q_IS_LENT : PySem.W.nsIn K mainGlobals "IS_LENT" = some (some (.int (-17) t_IS_LENT)))
    (q_WRONG : PySem.W.nsIn K mainGlobals "WRONG" = some (some (.int (-22) t_WRONG)))
    (q_TOO_MANY : PySem.W.nsIn K mainGlobals "TOO_MANY" = some (some (.int (-28) t_TOO_MANY)))
    (q_NONE_SUCH : PySem.W.nsIn K mainGlobals "NONE_SUCH" = some (some (.int (-33) t_NONE_SUCH)))
    (q_MOST_DRUMS : PySem.W.nsIn K mainGlobals "MOST_DRUMS" = some (some (.int (6) t_MOST_DRUMS)))
    (q_MOST_GUESTS : PySem.W.nsIn K mainGlobals "MOST_GUESTS" = some (some (.int (4) t_MOST_GUESTS)))
    (q_MOST_FREE_DAYS : PySem.W.nsIn K mainGlobals "MOST_FREE_DAYS" = some (some (.int (100) t_MOST_FREE_DAYS)))
    (q_LARGEST : PySem.W.nsIn K mainGlobals "LARGEST" = some (some (.int (5000) t_LARGEST)))
    (q_MOST_DAILY : PySem.W.nsIn K mainGlobals "MOST_DAILY" = some (some (.int (1000) t_MOST_DAILY)))
    (q_MOST_PLEDGE : PySem.W.nsIn K mainGlobals "MOST_PLEDGE" = some (some (.int (100000) t_MOST_PLEDGE)))
    (q_LONGEST : PySem.W.nsIn K mainGlobals "LONGEST" = some (some (.int (100000) t_LONGEST)))
    (q_MOST_DAYS : PySem.W.nsIn K mainGlobals "MOST_DAYS" = some (some (.int (1000) t_MOST_DAYS)))
    (q_LAST_DAY : PySem.W.nsIn K mainGlobals "LAST_DAY" = some (some (.int (100000) t_LAST_DAY)))
    (q_COUNTS : PySem.W.nsIn K mainGlobals "COUNTS" = some (some (.ref cnt)))
    (q_tup : K.lookup cnt = some ⟨.type "tuple", ddC, .seq its nC, slC⟩)
    (q_len : its.size ≤ 21)
    (q_vals : Vals (counts.map V.int) its.toList)
    (b_len : PySem.W.nsIn K mainGlobals "len" = some none)
    (b_max : PySem.W.nsIn K mainGlobals "max" = some none)
    (b_min : PySem.W.nsIn K mainGlobals "min" = some none)
    (b_sum : PySem.W.nsIn K mainGlobals "sum" = some none)
    (b_range : PySem.W.nsIn K mainGlobals "range" = some none)
    (b_enumerate : PySem.W.nsIn K mainGlobals "enumerate" = some none) :
    ∃ fd : FuncData, (∀ (s : Shared) (us : List Value), us.length = (["calls"] : List Str).length → BindsTo s fd ⟨us, []⟩ ((["calls"] : List Str).zip us)) ∧ ∀ base : Heap, K.In base → base.Ns mainGlobals mg → FnOk P w K mg base CX0 10 fa fd ["calls"] (sp_answers K) := by
  have e := hfa.symm.trans (PySem.W.mg_of X G a46)
  cases e
  have low : PySem.LowX.LowTxt K mg CR fR :=
    { gC := PySem.W.mg_of X G aR, cls := ⟨nm, q, N, bs, sn, sub, ab, col, dd, m0, m1, m2, m3, m5, xR⟩, sa := saR, ga := gaR, gg := ggR, noN := nbR, iC := iR, tC := tiR, kC := kR, exC := eR, tyC := tR, hdC := hdR, te := exm_self eR icR tR sR,
      fn := ⟨_, _, _, _, _, _, _, _, _, _, _, _, _, _, lR, cdeR⟩ }
  have F0 := fun_mk (st := s_Drum_init) l0 c0 k0
  have b0 := F0.binds (ps := ["self", "core", "flange", "wide", "daily", "pledge"]) fun _ _ _ _ _ _ us hl => match us, hl with | [_, _, _, _, _, _], _ => rfl
  have F1 := fun_mk (st := s_Drum_layers) l1 c1 k1
  have b1 := F1.binds (ps := ["self", "thick"]) fun _ _ _ _ _ _ us hl => match us, hl with | [_, _], _ => rfl
  have F2 := fun_mk (st := s_Drum_turns) l2 c2 k2
  have b2 := F2.binds (ps := ["self", "thick"]) fun _ _ _ _ _ _ us hl => match us, hl with | [_, _], _ => rfl
  have F3 := fun_mk (st := s_Drum_metres) l3 c3 k3
  have b3 := F3.binds (ps := ["self", "thick"]) fun _ _ _ _ _ _ us hl => match us, hl with | [_, _], _ => rfl
  have F4 := fun_mk (st := s_Drum_thickest) l4 c4 k4
  have b4 := F4.binds (ps := ["self", "metres"]) fun _ _ _ _ _ _ us hl => match us, hl with | [_, _], _ => rfl
  have F5 := fun_mk (st := s_Drum_charged) l5 c5 k5
  have b5 := F5.binds (ps := ["self", "today", "free_days"]) fun _ _ _ _ _ _ us hl => match us, hl with | [_, _, _], _ => rfl
  have F6 := fun_mk (st := s_longer_plans) l6 c6 k6
  have b6 := F6.binds (ps := ["plans", "numbers"]) fun _ _ _ _ _ _ us hl => match us, hl with | [_, _], _ => rfl
  have F7 := fun_mk (st := s_fits) l7 c7 k7
  have b7 := F7.binds (ps := ["plan", "lengths", "room"]) fun _ _ _ _ _ _ us hl => match us, hl with | [_, _, _], _ => rfl
  have F8 := fun_mk (st := s_best_plan) l8 c8 k8
  have b8 := F8.binds (ps := ["drums", "lengths", "thick"]) fun _ _ _ _ _ _ us hl => match us, hl with | [_, _, _], _ => rfl
  have F9 := fun_mk (st := s_taken) l9 c9 k9
  have b9 := F9.binds (ps := ["plan"]) fun _ _ _ _ _ _ us hl => match us, hl with | [_], _ => rfl
  have F10 := fun_mk (st := s_drum_count) l10 c10 k10
  have b10 := F10.binds (ps := ["plan"]) fun _ _ _ _ _ _ us hl => match us, hl with | [_], _ => rfl
  have F11 := fun_mk (st := s_daily_cost) l11 c11 k11
  have b11 := F11.binds (ps := ["drums", "plan"]) fun _ _ _ _ _ _ us hl => match us, hl with | [_, _], _ => rfl
  have F12 := fun_mk (st := s_need) l12 c12 k12
  have b12 := F12.binds (ps := ["holds", "code"]) fun _ _ _ _ _ _ us hl => match us, hl with | [_, _], _ => rfl
  have F13 := fun_mk (st := s_told_list) l13 c13 k13
  have b13 := F13.binds (ps := ["numbers"]) fun _ _ _ _ _ _ us hl => match us, hl with | [_], _ => rfl
  have F14 := fun_mk (st := s_Guest_init) l14 c14 k14
  have b14 := F14.binds (ps := ["self"]) fun _ _ _ _ _ _ us hl => match us, hl with | [_], _ => rfl
  have F15 := fun_mk (st := s_Yard_init) l15 c15 k15
  have b15 := F15.binds (ps := ["self", "free_days"]) fun _ _ _ _ _ _ us hl => match us, hl with | [_, _], _ => rfl
  have F16 := fun_mk (st := s_Yard_drum_at) l16 c16 k16
  have b16 := F16.binds (ps := ["self", "number"]) fun _ _ _ _ _ _ us hl => match us, hl with | [_, _], _ => rfl
  have F17 := fun_mk (st := s_Yard_lent_drum) l17 c17 k17
  have b17 := F17.binds (ps := ["self", "number"]) fun _ _ _ _ _ _ us hl => match us, hl with | [_, _], _ => rfl
  have F18 := fun_mk (st := s_Yard_guest_at) l18 c18 k18
  have b18 := F18.binds (ps := ["self", "number"]) fun _ _ _ _ _ _ us hl => match us, hl with | [_, _], _ => rfl
  have F19 := fun_mk (st := s_Yard_add_drum) l19 c19 k19
  have b19 := F19.binds (ps := ["self", "numbers"]) fun _ _ _ _ _ _ us hl => match us, hl with | [_, _], _ => rfl
  have F20 := fun_mk (st := s_Yard_add_guest) l20 c20 k20
  have b20 := F20.binds (ps := ["self"]) fun _ _ _ _ _ _ us hl => match us, hl with | [_], _ => rfl
  have F21 := fun_mk (st := s_Yard_need_thick) l21 c21 k21
  have b21 := F21.binds (ps := ["self", "thick"]) fun _ _ _ _ _ _ us hl => match us, hl with | [_, _], _ => rfl
  have F22 := fun_mk (st := s_Yard_told_room) l22 c22 k22
  have b22 := F22.binds (ps := ["self", "number", "thick"]) fun _ _ _ _ _ _ us hl => match us, hl with | [_, _, _], _ => rfl
  have F23 := fun_mk (st := s_Yard_thickest) l23 c23 k23
  have b23 := F23.binds (ps := ["self", "number", "metres"]) fun _ _ _ _ _ _ us hl => match us, hl with | [_, _, _], _ => rfl
  have F24 := fun_mk (st := s_Yard_free_drums) l24 c24 k24
  have b24 := F24.binds (ps := ["self"]) fun _ _ _ _ _ _ us hl => match us, hl with | [_], _ => rfl
  have F25 := fun_mk (st := s_Yard_fit) l25 c25 k25
  have b25 := F25.binds (ps := ["self", "thick", "metres"]) fun _ _ _ _ _ _ us hl => match us, hl with | [_, _, _], _ => rfl
  have F26 := fun_mk (st := s_Yard_plan) l26 c26 k26
  have b26 := F26.binds (ps := ["self", "thick", "given"]) fun _ _ _ _ _ _ us hl => match us, hl with | [_, _, _], _ => rfl
  have F27 := fun_mk (st := s_Yard_told_costs) l27 c27 k27
  have b27 := F27.binds (ps := ["self", "thick", "given"]) fun _ _ _ _ _ _ us hl => match us, hl with | [_, _, _], _ => rfl
  have F28 := fun_mk (st := s_Yard_lend) l28 c28 k28
  have b28 := F28.binds (ps := ["self", "number", "guest", "days"]) fun _ _ _ _ _ _ us hl => match us, hl with | [_, _, _, _], _ => rfl
  have F29 := fun_mk (st := s_Yard_charge) l29 c29 k29
  have b29 := F29.binds (ps := ["self", "drum"]) fun _ _ _ _ _ _ us hl => match us, hl with | [_, _], _ => rfl
  have F30 := fun_mk (st := s_Yard_bring) l30 c30 k30
  have b30 := F30.binds (ps := ["self", "number"]) fun _ _ _ _ _ _ us hl => match us, hl with | [_, _], _ => rfl
  have F31 := fun_mk (st := s_Yard_lose) l31 c31 k31
  have b31 := F31.binds (ps := ["self", "number"]) fun _ _ _ _ _ _ us hl => match us, hl with | [_, _], _ => rfl
  have F32 := fun_mk (st := s_Yard_pay) l32 c32 k32
  have b32 := F32.binds (ps := ["self", "number", "amount"]) fun _ _ _ _ _ _ us hl => match us, hl with | [_, _, _], _ => rfl
  have F33 := fun_mk (st := s_Yard_pass_days) l33 c33 k33
  have b33 := F33.binds (ps := ["self", "days"]) fun _ _ _ _ _ _ us hl => match us, hl with | [_, _], _ => rfl
  have F34 := fun_mk (st := s_Yard_lent_to) l34 c34 k34
  have b34 := F34.binds (ps := ["self", "guest"]) fun _ _ _ _ _ _ us hl => match us, hl with | [_, _], _ => rfl
  have F35 := fun_mk (st := s_Yard_late_drums) l35 c35 k35
  have b35 := F35.binds (ps := ["self"]) fun _ _ _ _ _ _ us hl => match us, hl with | [_], _ => rfl
  have F36 := fun_mk (st := s_Yard_told_owed) l36 c36 k36
  have b36 := F36.binds (ps := ["self", "number"]) fun _ _ _ _ _ _ us hl => match us, hl with | [_, _], _ => rfl
  have F37 := fun_mk (st := s_Yard_told_would) l37 c37 k37
  have b37 := F37.binds (ps := ["self", "number"]) fun _ _ _ _ _ _ us hl => match us, hl with | [_, _], _ => rfl
  have F38 := fun_mk (st := s_Yard_told_lent) l38 c38 k38
  have b38 := F38.binds (ps := ["self", "number"]) fun _ _ _ _ _ _ us hl => match us, hl with | [_, _], _ => rfl
  have F39 := fun_mk (st := s_Yard_told_eaten) l39 c39 k39
  have b39 := F39.binds (ps := ["self", "number"]) fun _ _ _ _ _ _ us hl => match us, hl with | [_, _], _ => rfl
  have F40 := fun_mk (st := s_Yard_told_drum) l40 c40 k40
  have b40 := F40.binds (ps := ["self", "number"]) fun _ _ _ _ _ _ us hl => match us, hl with | [_, _], _ => rfl
  have F41 := fun_mk (st := s_Yard_told_sums) l41 c41 k41
  have b41 := F41.binds (ps := ["self"]) fun _ _ _ _ _ _ us hl => match us, hl with | [_], _ => rfl
  have F42 := fun_mk (st := s_Yard_respond_drums) l42 c42 k42
  have b42 := F42.binds (ps := ["self", "call", "numbers"]) fun _ _ _ _ _ _ us hl => match us, hl with | [_, _, _], _ => rfl
  have F43 := fun_mk (st := s_Yard_respond_guests) l43 c43 k43
  have b43 := F43.binds (ps := ["self", "call", "numbers"]) fun _ _ _ _ _ _ us hl => match us, hl with | [_, _, _], _ => rfl
  have F44 := fun_mk (st := s_Desk_init) l44 c44 k44
  have b44 := F44.binds (ps := ["self"]) fun _ _ _ _ _ _ us hl => match us, hl with | [_], _ => rfl
  have F45 := fun_mk (st := s_Desk_respond) l45 c45 k45
  have b45 := F45.binds (ps := ["self", "call", "numbers"]) fun _ _ _ _ _ _ us hl => match us, hl with | [_, _, _], _ => rfl
  have F46 := fun_mk (st := s_answers) l46 c46 k46
  have b46 := F46.binds (ps := ["calls"]) fun _ _ _ _ _ _ us hl => match us, hl with | [_], _ => rfl
  let a : Ad := ⟨CD, CR, CG, CY, CK, cnt, fR, f0, (PySem.W.fnOf "__init__" "Drum.__init__" (defArgs s_Drum_init) (defBody s_Drum_init) (defScope s_Drum_init) .none kV0 dc0 pm0 an0 cd0 ct0), f1, (PySem.W.fnOf "layers" "Drum.layers" (defArgs s_Drum_layers) (defBody s_Drum_layers) (defScope s_Drum_layers) .none kV1 dc1 pm1 an1 cd1 ct1), f2, (PySem.W.fnOf "turns" "Drum.turns" (defArgs s_Drum_turns) (defBody s_Drum_turns) (defScope s_Drum_turns) .none kV2 dc2 pm2 an2 cd2 ct2), f3, (PySem.W.fnOf "metres" "Drum.metres" (defArgs s_Drum_metres) (defBody s_Drum_metres) (defScope s_Drum_metres) .none kV3 dc3 pm3 an3 cd3 ct3), f4, (PySem.W.fnOf "thickest" "Drum.thickest" (defArgs s_Drum_thickest) (defBody s_Drum_thickest) (defScope s_Drum_thickest) .none kV4 dc4 pm4 an4 cd4 ct4), f5, (PySem.W.fnOf "charged" "Drum.charged" (defArgs s_Drum_charged) (defBody s_Drum_charged) (defScope s_Drum_charged) .none kV5 dc5 pm5 an5 cd5 ct5), f6, (PySem.W.fnOf "longer_plans" "longer_plans" (defArgs s_longer_plans) (defBody s_longer_plans) (defScope s_longer_plans) .none kV6 dc6 pm6 an6 cd6 ct6), f7, (PySem.W.fnOf "fits" "fits" (defArgs s_fits) (defBody s_fits) (defScope s_fits) .none kV7 dc7 pm7 an7 cd7 ct7), f8, (PySem.W.fnOf "best_plan" "best_plan" (defArgs s_best_plan) (defBody s_best_plan) (defScope s_best_plan) .none kV8 dc8 pm8 an8 cd8 ct8), f9, (PySem.W.fnOf "taken" "taken" (defArgs s_taken) (defBody s_taken) (defScope s_taken) .none kV9 dc9 pm9 an9 cd9 ct9), f10, (PySem.W.fnOf "drum_count" "drum_count" (defArgs s_drum_count) (defBody s_drum_count) (defScope s_drum_count) .none kV10 dc10 pm10 an10 cd10 ct10), f11, (PySem.W.fnOf "daily_cost" "daily_cost" (defArgs s_daily_cost) (defBody s_daily_cost) (defScope s_daily_cost) .none kV11 dc11 pm11 an11 cd11 ct11), f12, (PySem.W.fnOf "need" "need" (defArgs s_need) (defBody s_need) (defScope s_need) .none kV12 dc12 pm12 an12 cd12 ct12), f13, (PySem.W.fnOf "told_list" "told_list" (defArgs s_told_list) (defBody s_told_list) (defScope s_told_list) .none kV13 dc13 pm13 an13 cd13 ct13), f14, (PySem.W.fnOf "__init__" "Guest.__init__" (defArgs s_Guest_init) (defBody s_Guest_init) (defScope s_Guest_init) .none kV14 dc14 pm14 an14 cd14 ct14), f15, (PySem.W.fnOf "__init__" "Yard.__init__" (defArgs s_Yard_init) (defBody s_Yard_init) (defScope s_Yard_init) .none kV15 dc15 pm15 an15 cd15 ct15), f16, (PySem.W.fnOf "drum_at" "Yard.drum_at" (defArgs s_Yard_drum_at) (defBody s_Yard_drum_at) (defScope s_Yard_drum_at) .none kV16 dc16 pm16 an16 cd16 ct16), f17, (PySem.W.fnOf "lent_drum" "Yard.lent_drum" (defArgs s_Yard_lent_drum) (defBody s_Yard_lent_drum) (defScope s_Yard_lent_drum) .none kV17 dc17 pm17 an17 cd17 ct17), f18, (PySem.W.fnOf "guest_at" "Yard.guest_at" (defArgs s_Yard_guest_at) (defBody s_Yard_guest_at) (defScope s_Yard_guest_at) .none kV18 dc18 pm18 an18 cd18 ct18), f19, (PySem.W.fnOf "add_drum" "Yard.add_drum" (defArgs s_Yard_add_drum) (defBody s_Yard_add_drum) (defScope s_Yard_add_drum) .none kV19 dc19 pm19 an19 cd19 ct19), f20, (PySem.W.fnOf "add_guest" "Yard.add_guest" (defArgs s_Yard_add_guest) (defBody s_Yard_add_guest) (defScope s_Yard_add_guest) .none kV20 dc20 pm20 an20 cd20 ct20), f21, (PySem.W.fnOf "need_thick" "Yard.need_thick" (defArgs s_Yard_need_thick) (defBody s_Yard_need_thick) (defScope s_Yard_need_thick) .none kV21 dc21 pm21 an21 cd21 ct21), f22, (PySem.W.fnOf "told_room" "Yard.told_room" (defArgs s_Yard_told_room) (defBody s_Yard_told_room) (defScope s_Yard_told_room) .none kV22 dc22 pm22 an22 cd22 ct22), f23, (PySem.W.fnOf "thickest" "Yard.thickest" (defArgs s_Yard_thickest) (defBody s_Yard_thickest) (defScope s_Yard_thickest) .none kV23 dc23 pm23 an23 cd23 ct23), f24, (PySem.W.fnOf "free_drums" "Yard.free_drums" (defArgs s_Yard_free_drums) (defBody s_Yard_free_drums) (defScope s_Yard_free_drums) .none kV24 dc24 pm24 an24 cd24 ct24), f25, (PySem.W.fnOf "fit" "Yard.fit" (defArgs s_Yard_fit) (defBody s_Yard_fit) (defScope s_Yard_fit) .none kV25 dc25 pm25 an25 cd25 ct25), f26, (PySem.W.fnOf "plan" "Yard.plan" (defArgs s_Yard_plan) (defBody s_Yard_plan) (defScope s_Yard_plan) .none kV26 dc26 pm26 an26 cd26 ct26), f27, (PySem.W.fnOf "told_costs" "Yard.told_costs" (defArgs s_Yard_told_costs) (defBody s_Yard_told_costs) (defScope s_Yard_told_costs) .none kV27 dc27 pm27 an27 cd27 ct27), f28, (PySem.W.fnOf "lend" "Yard.lend" (defArgs s_Yard_lend) (defBody s_Yard_lend) (defScope s_Yard_lend) .none kV28 dc28 pm28 an28 cd28 ct28), f29, (PySem.W.fnOf "charge" "Yard.charge" (defArgs s_Yard_charge) (defBody s_Yard_charge) (defScope s_Yard_charge) .none kV29 dc29 pm29 an29 cd29 ct29), f30, (PySem.W.fnOf "bring" "Yard.bring" (defArgs s_Yard_bring) (defBody s_Yard_bring) (defScope s_Yard_bring) .none kV30 dc30 pm30 an30 cd30 ct30), f31, (PySem.W.fnOf "lose" "Yard.lose" (defArgs s_Yard_lose) (defBody s_Yard_lose) (defScope s_Yard_lose) .none kV31 dc31 pm31 an31 cd31 ct31), f32, (PySem.W.fnOf "pay" "Yard.pay" (defArgs s_Yard_pay) (defBody s_Yard_pay) (defScope s_Yard_pay) .none kV32 dc32 pm32 an32 cd32 ct32), f33, (PySem.W.fnOf "pass_days" "Yard.pass_days" (defArgs s_Yard_pass_days) (defBody s_Yard_pass_days) (defScope s_Yard_pass_days) .none kV33 dc33 pm33 an33 cd33 ct33), f34, (PySem.W.fnOf "lent_to" "Yard.lent_to" (defArgs s_Yard_lent_to) (defBody s_Yard_lent_to) (defScope s_Yard_lent_to) .none kV34 dc34 pm34 an34 cd34 ct34), f35, (PySem.W.fnOf "late_drums" "Yard.late_drums" (defArgs s_Yard_late_drums) (defBody s_Yard_late_drums) (defScope s_Yard_late_drums) .none kV35 dc35 pm35 an35 cd35 ct35), f36, (PySem.W.fnOf "told_owed" "Yard.told_owed" (defArgs s_Yard_told_owed) (defBody s_Yard_told_owed) (defScope s_Yard_told_owed) .none kV36 dc36 pm36 an36 cd36 ct36), f37, (PySem.W.fnOf "told_would" "Yard.told_would" (defArgs s_Yard_told_would) (defBody s_Yard_told_would) (defScope s_Yard_told_would) .none kV37 dc37 pm37 an37 cd37 ct37), f38, (PySem.W.fnOf "told_lent" "Yard.told_lent" (defArgs s_Yard_told_lent) (defBody s_Yard_told_lent) (defScope s_Yard_told_lent) .none kV38 dc38 pm38 an38 cd38 ct38), f39, (PySem.W.fnOf "told_eaten" "Yard.told_eaten" (defArgs s_Yard_told_eaten) (defBody s_Yard_told_eaten) (defScope s_Yard_told_eaten) .none kV39 dc39 pm39 an39 cd39 ct39), f40, (PySem.W.fnOf "told_drum" "Yard.told_drum" (defArgs s_Yard_told_drum) (defBody s_Yard_told_drum) (defScope s_Yard_told_drum) .none kV40 dc40 pm40 an40 cd40 ct40), f41, (PySem.W.fnOf "told_sums" "Yard.told_sums" (defArgs s_Yard_told_sums) (defBody s_Yard_told_sums) (defScope s_Yard_told_sums) .none kV41 dc41 pm41 an41 cd41 ct41), f42, (PySem.W.fnOf "respond_drums" "Yard.respond_drums" (defArgs s_Yard_respond_drums) (defBody s_Yard_respond_drums) (defScope s_Yard_respond_drums) .none kV42 dc42 pm42 an42 cd42 ct42), f43, (PySem.W.fnOf "respond_guests" "Yard.respond_guests" (defArgs s_Yard_respond_guests) (defBody s_Yard_respond_guests) (defScope s_Yard_respond_guests) .none kV43 dc43 pm43 an43 cd43 ct43), f44, (PySem.W.fnOf "__init__" "Desk.__init__" (defArgs s_Desk_init) (defBody s_Desk_init) (defScope s_Desk_init) .none kV44 dc44 pm44 an44 cd44 ct44), f45, (PySem.W.fnOf "respond" "Desk.respond" (defArgs s_Desk_respond) (defBody s_Desk_respond) (defScope s_Desk_respond) .none kV45 dc45 pm45 an45 cd45 ct45), fa, (PySem.W.fnOf "answers" "answers" (defArgs s_answers) (defBody s_answers) (defScope s_answers) .none kV46 dc46 pm46 an46 cd46 ct46)⟩
  have T : Txt K mg a := {
    low := low
    cl_Drum := ⟨pgCD, hdCD, poCD, saCD⟩
    mk_Drum := ⟨mkCD, a0, i0, kcCD⟩
    gC_Drum := PySem.W.mg_of X G aCD
    n_Drum_core := n_Drum_core
    n_Drum_flange := n_Drum_flange
    n_Drum_wide := n_Drum_wide
    n_Drum_daily := n_Drum_daily
    n_Drum_pledge := n_Drum_pledge
    n_Drum_guest := n_Drum_guest
    n_Drum_since := n_Drum_since
    n_Drum_till := n_Drum_till
    cl_Guest := ⟨pgCG, hdCG, poCG, saCG⟩
    mk_Guest := ⟨mkCG, a14, i14, kcCG⟩
    gC_Guest := PySem.W.mg_of X G aCG
    n_Guest_owed := n_Guest_owed
    n_Guest_paid := n_Guest_paid
    cl_Yard := ⟨pgCY, hdCY, poCY, saCY⟩
    mk_Yard := ⟨mkCY, a15, i15, kcCY⟩
    gC_Yard := PySem.W.mg_of X G aCY
    n_Yard_free_days := n_Yard_free_days
    n_Yard_drums := n_Yard_drums
    n_Yard_guests := n_Yard_guests
    n_Yard_today := n_Yard_today
    n_Yard_kept := n_Yard_kept
    cl_Desk := ⟨pgCK, hdCK, poCK, saCK⟩
    mk_Desk := ⟨mkCK, a44, i44, kcCK⟩
    gC_Desk := PySem.W.mg_of X G aCK
    n_Desk_yard := n_Desk_yard
    d_Drum_init := ⟨F0, b0⟩
    d_Drum_layers := ⟨F1, b1⟩
    m_Drum_layers := ⟨a1, i1, k1⟩
    d_Drum_turns := ⟨F2, b2⟩
    m_Drum_turns := ⟨a2, i2, k2⟩
    d_Drum_metres := ⟨F3, b3⟩
    m_Drum_metres := ⟨a3, i3, k3⟩
    d_Drum_thickest := ⟨F4, b4⟩
    m_Drum_thickest := ⟨a4, i4, k4⟩
    d_Drum_charged := ⟨F5, b5⟩
    m_Drum_charged := ⟨a5, i5, k5⟩
    d_longer_plans := ⟨F6, b6⟩
    g_longer_plans := PySem.W.mg_of X G a6
    d_fits := ⟨F7, b7⟩
    g_fits := PySem.W.mg_of X G a7
    d_best_plan := ⟨F8, b8⟩
    g_best_plan := PySem.W.mg_of X G a8
    d_taken := ⟨F9, b9⟩
    g_taken := PySem.W.mg_of X G a9
    d_drum_count := ⟨F10, b10⟩
    g_drum_count := PySem.W.mg_of X G a10
    d_daily_cost := ⟨F11, b11⟩
    g_daily_cost := PySem.W.mg_of X G a11
    d_need := ⟨F12, b12⟩
    g_need := PySem.W.mg_of X G a12
    d_told_list := ⟨F13, b13⟩
    g_told_list := PySem.W.mg_of X G a13
    d_Guest_init := ⟨F14, b14⟩
    d_Yard_init := ⟨F15, b15⟩
    d_Yard_drum_at := ⟨F16, b16⟩
    m_Yard_drum_at := ⟨a16, i16, k16⟩
    d_Yard_lent_drum := ⟨F17, b17⟩
    m_Yard_lent_drum := ⟨a17, i17, k17⟩
    d_Yard_guest_at := ⟨F18, b18⟩
    m_Yard_guest_at := ⟨a18, i18, k18⟩
    d_Yard_add_drum := ⟨F19, b19⟩
    m_Yard_add_drum := ⟨a19, i19, k19⟩
    d_Yard_add_guest := ⟨F20, b20⟩
    m_Yard_add_guest := ⟨a20, i20, k20⟩
    d_Yard_need_thick := ⟨F21, b21⟩
    m_Yard_need_thick := ⟨a21, i21, k21⟩
    d_Yard_told_room := ⟨F22, b22⟩
    m_Yard_told_room := ⟨a22, i22, k22⟩
    d_Yard_thickest := ⟨F23, b23⟩
    m_Yard_thickest := ⟨a23, i23, k23⟩
    d_Yard_free_drums := ⟨F24, b24⟩
    m_Yard_free_drums := ⟨a24, i24, k24⟩
    d_Yard_fit := ⟨F25, b25⟩
    m_Yard_fit := ⟨a25, i25, k25⟩
    d_Yard_plan := ⟨F26, b26⟩
    m_Yard_plan := ⟨a26, i26, k26⟩
    d_Yard_told_costs := ⟨F27, b27⟩
    m_Yard_told_costs := ⟨a27, i27, k27⟩
    d_Yard_lend := ⟨F28, b28⟩
    m_Yard_lend := ⟨a28, i28, k28⟩
    d_Yard_charge := ⟨F29, b29⟩
    m_Yard_charge := ⟨a29, i29, k29⟩
    d_Yard_bring := ⟨F30, b30⟩
    m_Yard_bring := ⟨a30, i30, k30⟩
    d_Yard_lose := ⟨F31, b31⟩
    m_Yard_lose := ⟨a31, i31, k31⟩
    d_Yard_pay := ⟨F32, b32⟩
    m_Yard_pay := ⟨a32, i32, k32⟩
    d_Yard_pass_days := ⟨F33, b33⟩
    m_Yard_pass_days := ⟨a33, i33, k33⟩
    d_Yard_lent_to := ⟨F34, b34⟩
    m_Yard_lent_to := ⟨a34, i34, k34⟩
    d_Yard_late_drums := ⟨F35, b35⟩
    m_Yard_late_drums := ⟨a35, i35, k35⟩
    d_Yard_told_owed := ⟨F36, b36⟩
    m_Yard_told_owed := ⟨a36, i36, k36⟩
    d_Yard_told_would := ⟨F37, b37⟩
    m_Yard_told_would := ⟨a37, i37, k37⟩
    d_Yard_told_lent := ⟨F38, b38⟩
    m_Yard_told_lent := ⟨a38, i38, k38⟩
    d_Yard_told_eaten := ⟨F39, b39⟩
    m_Yard_told_eaten := ⟨a39, i39, k39⟩
    d_Yard_told_drum := ⟨F40, b40⟩
    m_Yard_told_drum := ⟨a40, i40, k40⟩
    d_Yard_told_sums := ⟨F41, b41⟩
    m_Yard_told_sums := ⟨a41, i41, k41⟩
    d_Yard_respond_drums := ⟨F42, b42⟩
    m_Yard_respond_drums := ⟨a42, i42, k42⟩
    d_Yard_respond_guests := ⟨F43, b43⟩
    m_Yard_respond_guests := ⟨a43, i43, k43⟩
    d_Desk_init := ⟨F44, b44⟩
    d_Desk_respond := ⟨F45, b45⟩
    m_Desk_respond := ⟨a45, i45, k45⟩
    d_answers := ⟨F46, b46⟩
    g_answers := PySem.W.mg_of X G a46
    c_MILLIMETRES := ⟨_, PySem.W.mg_of X G q_MILLIMETRES, ⟨_, rfl⟩⟩
    c_MOST_THICK := ⟨_, PySem.W.mg_of X G q_MOST_THICK, ⟨_, rfl⟩⟩
    c_NOT_BEGUN := ⟨_, PySem.W.mg_of X G q_NOT_BEGUN, ⟨_, rfl⟩⟩
    c_NOT_THERE := ⟨_, PySem.W.mg_of X G q_NOT_THERE, ⟨_, rfl⟩⟩
    c_NOT_LENT := ⟨_, PySem.W.mg_of X G q_NOT_LENT, ⟨_, rfl⟩⟩
    c_IS_LENT := ⟨_, PySem.W.mg_of X G q_IS_LENT, ⟨_, rfl⟩⟩
    c_WRONG := ⟨_, PySem.W.mg_of X G q_WRONG, ⟨_, rfl⟩⟩
    c_TOO_MANY := ⟨_, PySem.W.mg_of X G q_TOO_MANY, ⟨_, rfl⟩⟩
    c_NONE_SUCH := ⟨_, PySem.W.mg_of X G q_NONE_SUCH, ⟨_, rfl⟩⟩
    c_MOST_DRUMS := ⟨_, PySem.W.mg_of X G q_MOST_DRUMS, ⟨_, rfl⟩⟩
    c_MOST_GUESTS := ⟨_, PySem.W.mg_of X G q_MOST_GUESTS, ⟨_, rfl⟩⟩
    c_MOST_FREE_DAYS := ⟨_, PySem.W.mg_of X G q_MOST_FREE_DAYS, ⟨_, rfl⟩⟩
    c_LARGEST := ⟨_, PySem.W.mg_of X G q_LARGEST, ⟨_, rfl⟩⟩
    c_MOST_DAILY := ⟨_, PySem.W.mg_of X G q_MOST_DAILY, ⟨_, rfl⟩⟩
    c_MOST_PLEDGE := ⟨_, PySem.W.mg_of X G q_MOST_PLEDGE, ⟨_, rfl⟩⟩
    c_LONGEST := ⟨_, PySem.W.mg_of X G q_LONGEST, ⟨_, rfl⟩⟩
    c_MOST_DAYS := ⟨_, PySem.W.mg_of X G q_MOST_DAYS, ⟨_, rfl⟩⟩
    c_LAST_DAY := ⟨_, PySem.W.mg_of X G q_LAST_DAY, ⟨_, rfl⟩⟩
    c_COUNTS := ⟨_, PySem.W.mg_of X G q_COUNTS, rfl⟩
    t_COUNTS := fun H => .inr ⟨_, its, nC, q_tup, rfl, rfl, Nat.le_trans q_len (by decide), q_vals⟩
    b_len := mg_none X G b_len
    b_max := mg_none X G b_max
    b_min := mg_none X G b_min
    b_sum := mg_none X G b_sum
    b_range := mg_none X G b_range
    b_enumerate := mg_none X G b_enumerate
  }
  exact ⟨PySem.W.fnOf "answers" "answers" (defArgs s_answers) (defBody s_answers) (defScope s_answers) .none kV46 dc46 pm46 an46 cd46 ct46, fun s us hu => match us, hu with | [_], _ => .of_eq rfl, fun base _ _ => ok_answers T⟩
end Ld
set_option maxHeartbeats 16000000
open PySem PySem.W PyProof.Rows
theorem PySem.Challenge.cw_lentdrums_s01_answers_holds : PySem.Challenge.rw_lentdrums_s01_answers.Holds := by
  w_on; k_headS; (case hw => exact ⟨[.list [.int 2]], by decide +kernel, by decide +kernel⟩)
  k_fillS
  refine L2.walk_specK (r := PySem.Challenge.rw_lentdrums_s01_answers) (k := 10) (CX := L2.CX0) (ps := ["calls"]) (sp := Ld.sp_answers) (by decide +kernel) rfl rfl ⟨rfl, by decide, by decide⟩ (fun w h Y => PySem.W.kIn_of Y) ?F ?S (fun _ _ _ _ z => z)
  case F =>
    intro w mg fa h Y KX G hmg
    refine' Ld.all_mk KX G hmg ?aR ?xR ?saR ?gaR ?ggR ?nbR ?iR ?tiR ?lR ?cdeR ?kR ?eR ?tR ?hdR ?icR ?sR ?aCD ?pgCD ?hdCD ?poCD ?saCD ?mkCD ?kcCD ?n_Drum_core ?n_Drum_flange ?n_Drum_wide ?n_Drum_daily ?n_Drum_pledge ?n_Drum_guest ?n_Drum_since ?n_Drum_till ?aCG ?pgCG ?hdCG ?poCG ?saCG ?mkCG ?kcCG ?n_Guest_owed ?n_Guest_paid ?aCY ?pgCY ?hdCY ?poCY ?saCY ?mkCY ?kcCY ?n_Yard_free_days ?n_Yard_drums ?n_Yard_guests ?n_Yard_today ?n_Yard_kept ?aCK ?pgCK ?hdCK ?poCK ?saCK ?mkCK ?kcCK ?n_Desk_yard ?a0 ?i0 ?l0 ?c0 ?k0 ?a1 ?i1 ?l1 ?c1 ?k1 ?a2 ?i2 ?l2 ?c2 ?k2 ?a3 ?i3 ?l3 ?c3 ?k3 ?a4 ?i4 ?l4 ?c4 ?k4 ?a5 ?i5 ?l5 ?c5 ?k5 ?a6 ?l6 ?c6 ?k6 ?a7 ?l7 ?c7 ?k7 ?a8 ?l8 ?c8 ?k8 ?a9 ?l9 ?c9 ?k9 ?a10 ?l10 ?c10 ?k10 ?a11 ?l11 ?c11 ?k11 ?a12 ?l12 ?c12 ?k12 ?a13 ?l13 ?c13 ?k13 ?a14 ?i14 ?l14 ?c14 ?k14 ?a15 ?i15 ?l15 ?c15 ?k15 ?a16 ?i16 ?l16 ?c16 ?k16 ?a17 ?i17 ?l17 ?c17 ?k17 ?a18 ?i18 ?l18 ?c18 ?k18 ?a19 ?i19 ?l19 ?c19 ?k19 ?a20 ?i20 ?l20 ?c20 ?k20 ?a21 ?i21 ?l21 ?c21 ?k21 ?a22 ?i22 ?l22 ?c22 ?k22 ?a23 ?i23 ?l23 ?c23 ?k23 ?a24 ?i24 ?l24 ?c24 ?k24 ?a25 ?i25 ?l25 ?c25 ?k25 ?a26 ?i26 ?l26 ?c26 ?k26 ?a27 ?i27 ?l27 ?c27 ?k27 ?a28 ?i28 ?l28 ?c28 ?k28 ?a29 ?i29 ?l29 ?c29 ?k29 ?a30 ?i30 ?l30 ?c30 ?k30 ?a31 ?i31 ?l31 ?c31 ?k31 ?a32 ?i32 ?l32 ?c32 ?k32 ?a33 ?i33 ?l33 ?c33 ?k33 ?a34 ?i34 ?l34 ?c34 ?k34 ?a35 ?i35 ?l35 ?c35 ?k35 ?a36 ?i36 ?l36 ?c36 ?k36 ?a37 ?i37 ?l37 ?c37 ?k37 ?a38 ?i38 ?l38 ?c38 ?k38 ?a39 ?i39 ?l39 ?c39 ?k39 ?a40 ?i40 ?l40 ?c40 ?k40 ?a41 ?i41 ?l41 ?c41 ?k41 ?a42 ?i42 ?l42 ?c42 ?k42 ?a43 ?i43 ?l43 ?c43 ?k43 ?a44 ?i44 ?l44 ?c44 ?k44 ?a45 ?i45 ?l45 ?c45 ?k45 ?a46 ?l46 ?c46 ?k46 ?q_MILLIMETRES ?q_MOST_THICK ?q_NOT_BEGUN ?q_NOT_THERE ?q_NOT_LENT ?q_IS_LENT ?q_WRONG ?q_TOO_MANY ?q_NONE_SUCH ?q_MOST_DRUMS ?q_MOST_GUESTS ?q_MOST_FREE_DAYS ?q_LARGEST ?q_MOST_DAILY ?q_MOST_PLEDGE ?q_LONGEST ?q_MOST_DAYS ?q_LAST_DAY ?q_COUNTS ?q_tup ?q_len ?q_vals ?b_len ?b_max ?b_min ?b_sum ?b_range ?b_enumerate
    (case aR => k_is)
    (case xR => k_is)
    (case saR => k_is)
    (case gaR => k_is)
    (case ggR => k_is)
    (case nbR => k_is)
    (case iR => k_is)
    (case tiR => k_is)
    (case lR => k_is)
    (case cdeR => k_is)
    (case kR => k_is)
    (case eR => k_is)
    (case tR => k_is)
    (case hdR => k_is)
    (case icR => k_is)
    (case sR => first | rfl | k_is)
    (case aCD => k_is)
    (case pgCD => k_is)
    (case hdCD => k_is)
    (case poCD => k_is)
    (case saCD => k_is)
    (case mkCD => k_is)
    (case kcCD => k_is)
    (case n_Drum_core => k_is)
    (case n_Drum_flange => k_is)
    (case n_Drum_wide => k_is)
    (case n_Drum_daily => k_is)
    (case n_Drum_pledge => k_is)
    (case n_Drum_guest => k_is)
    (case n_Drum_since => k_is)
    (case n_Drum_till => k_is)
    (case aCG => k_is)
    (case pgCG => k_is)
    (case hdCG => k_is)
    (case poCG => k_is)
    (case saCG => k_is)
    (case mkCG => k_is)
    (case kcCG => k_is)
    (case n_Guest_owed => k_is)
    (case n_Guest_paid => k_is)
    (case aCY => k_is)
    (case pgCY => k_is)
    (case hdCY => k_is)
    (case poCY => k_is)
    (case saCY => k_is)
    (case mkCY => k_is)
    (case kcCY => k_is)
    (case n_Yard_free_days => k_is)
    (case n_Yard_drums => k_is)
    (case n_Yard_guests => k_is)
    (case n_Yard_today => k_is)
    (case n_Yard_kept => k_is)
    (case aCK => k_is)
    (case pgCK => k_is)
    (case hdCK => k_is)
    (case poCK => k_is)
    (case saCK => k_is)
    (case mkCK => k_is)
    (case kcCK => k_is)
    (case n_Desk_yard => k_is)
    (case a0 => k_is)
    (case i0 => k_is)
    (case l0 => k_is)
    (case c0 => k_is)
    (case k0 => k_is)
    (case a1 => k_is)
    (case i1 => k_is)
    (case l1 => k_is)
    (case c1 => k_is)
    (case k1 => k_is)
    (case a2 => k_is)
    (case i2 => k_is)
    (case l2 => k_is)
    (case c2 => k_is)
    (case k2 => k_is)
    (case a3 => k_is)
    (case i3 => k_is)
    (case l3 => k_is)
    (case c3 => k_is)
    (case k3 => k_is)
    (case a4 => k_is)
    (case i4 => k_is)
    (case l4 => k_is)
    (case c4 => k_is)
    (case k4 => k_is)
    (case a5 => k_is)
    (case i5 => k_is)
    (case l5 => k_is)
    (case c5 => k_is)
    (case k5 => k_is)
    (case a6 => k_is)
    (case l6 => k_is)
    (case c6 => k_is)
    (case k6 => k_is)
    (case a7 => k_is)
    (case l7 => k_is)
    (case c7 => k_is)
    (case k7 => k_is)
    (case a8 => k_is)
    (case l8 => k_is)
    (case c8 => k_is)
    (case k8 => k_is)
    (case a9 => k_is)
    (case l9 => k_is)
    (case c9 => k_is)
    (case k9 => k_is)
    (case a10 => k_is)
    (case l10 => k_is)
    (case c10 => k_is)
    (case k10 => k_is)
    (case a11 => k_is)
    (case l11 => k_is)
    (case c11 => k_is)
    (case k11 => k_is)
    (case a12 => k_is)
    (case l12 => k_is)
    (case c12 => k_is)
    (case k12 => k_is)
    (case a13 => k_is)
    (case l13 => k_is)
    (case c13 => k_is)
    (case k13 => k_is)
    (case a14 => k_is)
    (case i14 => k_is)
    (case l14 => k_is)
    (case c14 => k_is)
    (case k14 => k_is)
    (case a15 => k_is)
    (case i15 => k_is)
    (case l15 => k_is)
    (case c15 => k_is)
    (case k15 => k_is)
    (case a16 => k_is)
    (case i16 => k_is)
    (case l16 => k_is)
    (case c16 => k_is)
    (case k16 => k_is)
    (case a17 => k_is)
    (case i17 => k_is)
    (case l17 => k_is)
    (case c17 => k_is)
    (case k17 => k_is)
    (case a18 => k_is)
    (case i18 => k_is)
    (case l18 => k_is)
    (case c18 => k_is)
    (case k18 => k_is)
    (case a19 => k_is)
    (case i19 => k_is)
    (case l19 => k_is)
    (case c19 => k_is)
    (case k19 => k_is)
    (case a20 => k_is)
    (case i20 => k_is)
    (case l20 => k_is)
    (case c20 => k_is)
    (case k20 => k_is)
    (case a21 => k_is)
    (case i21 => k_is)
    (case l21 => k_is)
    (case c21 => k_is)
    (case k21 => k_is)
    (case a22 => k_is)
    (case i22 => k_is)
    (case l22 => k_is)
    (case c22 => k_is)
    (case k22 => k_is)
    (case a23 => k_is)
    (case i23 => k_is)
    (case l23 => k_is)
    (case c23 => k_is)
    (case k23 => k_is)
    (case a24 => k_is)
    (case i24 => k_is)
    (case l24 => k_is)
    (case c24 => k_is)
    (case k24 => k_is)
    (case a25 => k_is)
    (case i25 => k_is)
    (case l25 => k_is)
    (case c25 => k_is)
    (case k25 => k_is)
    (case a26 => k_is)
    (case i26 => k_is)
    (case l26 => k_is)
    (case c26 => k_is)
    (case k26 => k_is)
    (case a27 => k_is)
    (case i27 => k_is)
    (case l27 => k_is)
    (case c27 => k_is)
    (case k27 => k_is)
    (case a28 => k_is)
    (case i28 => k_is)
    (case l28 => k_is)
    (case c28 => k_is)
    (case k28 => k_is)
    (case a29 => k_is)
    (case i29 => k_is)
    (case l29 => k_is)
    (case c29 => k_is)
    (case k29 => k_is)
    (case a30 => k_is)
    (case i30 => k_is)
    (case l30 => k_is)
    (case c30 => k_is)
    (case k30 => k_is)
    (case a31 => k_is)
    (case i31 => k_is)
    (case l31 => k_is)
    (case c31 => k_is)
    (case k31 => k_is)
    (case a32 => k_is)
    (case i32 => k_is)
    (case l32 => k_is)
    (case c32 => k_is)
    (case k32 => k_is)
    (case a33 => k_is)
    (case i33 => k_is)
    (case l33 => k_is)
    (case c33 => k_is)
    (case k33 => k_is)
    (case a34 => k_is)
    (case i34 => k_is)
    (case l34 => k_is)
    (case c34 => k_is)
    (case k34 => k_is)
    (case a35 => k_is)
    (case i35 => k_is)
    (case l35 => k_is)
    (case c35 => k_is)
    (case k35 => k_is)
    (case a36 => k_is)
    (case i36 => k_is)
    (case l36 => k_is)
    (case c36 => k_is)
    (case k36 => k_is)
    (case a37 => k_is)
    (case i37 => k_is)
    (case l37 => k_is)
    (case c37 => k_is)
    (case k37 => k_is)
    (case a38 => k_is)
    (case i38 => k_is)
    (case l38 => k_is)
    (case c38 => k_is)
    (case k38 => k_is)
    (case a39 => k_is)
    (case i39 => k_is)
    (case l39 => k_is)
    (case c39 => k_is)
    (case k39 => k_is)
    (case a40 => k_is)
    (case i40 => k_is)
    (case l40 => k_is)
    (case c40 => k_is)
    (case k40 => k_is)
    (case a41 => k_is)
    (case i41 => k_is)
    (case l41 => k_is)
    (case c41 => k_is)
    (case k41 => k_is)
    (case a42 => k_is)
    (case i42 => k_is)
    (case l42 => k_is)
    (case c42 => k_is)
    (case k42 => k_is)
    (case a43 => k_is)
    (case i43 => k_is)
    (case l43 => k_is)
    (case c43 => k_is)
    (case k43 => k_is)
    (case a44 => k_is)
    (case i44 => k_is)
    (case l44 => k_is)
    (case c44 => k_is)
    (case k44 => k_is)
    (case a45 => k_is)
    (case i45 => k_is)
    (case l45 => k_is)
    (case c45 => k_is)
    (case k45 => k_is)
    (case a46 => k_is)
    (case l46 => k_is)
    (case c46 => k_is)
    (case k46 => k_is)
    (case q_MILLIMETRES => k_is)
    (case q_MOST_THICK => k_is)
    (case q_NOT_BEGUN => k_is)
    (case q_NOT_THERE => k_is)
    (case q_NOT_LENT => k_is)
    (case q_IS_LENT => k_is)
    (case q_WRONG => k_is)
    (case q_TOO_MANY => k_is)
    (case q_NONE_SUCH => k_is)
    (case q_MOST_DRUMS => k_is)
    (case q_MOST_GUESTS => k_is)
    (case q_MOST_FREE_DAYS => k_is)
    (case q_LARGEST => k_is)
    (case q_MOST_DAILY => k_is)
    (case q_MOST_PLEDGE => k_is)
    (case q_LONGEST => k_is)
    (case q_MOST_DAYS => k_is)
    (case q_LAST_DAY => k_is)
    (case q_COUNTS => k_is)
    (case q_tup => k_is)
    (case q_len => decide)
    (case q_vals => repeat (first | exact Paired.nil | refine Paired.cons ⟨_, rfl⟩ ?_))
    (case b_len => k_is)
    (case b_max => k_is)
    (case b_min => k_is)
    (case b_sum => k_is)
    (case b_range => k_is)
    (case b_enumerate => k_is)
  case S =>
    intro K H xs a hO hwi hask hx
    cases hx with
    | cons h1 h2 =>
      cases h2
      cases h1 with
      | lst hs ha =>
        have e := L2.ints_dw a.1 _ ha
        subst e
        have q : ((Codec.inLen 0 31000 a.1 && a.1.all (Codec.inInt 0 4294967295)) && true) = true := hwi
        rw [Bool.and_eq_true, Bool.and_eq_true, List.all_eq_true] at q
        exact ⟨_, a.1, rfl, hs, fun x hx => Ld.inInt_nonneg (q.1.2 x hx), hask, fun H' p hp => .lst (L2.SqL.of hp) (L2.dw_ints _)⟩
